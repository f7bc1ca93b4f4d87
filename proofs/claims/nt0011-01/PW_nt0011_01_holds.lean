import PyProof.Rows.All
import Wide.All
import OpenK.AllK
import Wide.FinOn
import Lean
import PySem.Challenge.RW_nt0011_01
set_option Elab.async false
set_option genSizeOf false
set_option genInjectivity false
set_option linter.all false
set_option compiler.extract_closed false
set_option maxRecDepth 100000
set_option maxHeartbeats 8000000
namespace Mine
open PySem PySem.W PySem.Calls PySem.Spec PyProof.Rows
noncomputable abbrev PG : Program := Challenge.rw_nt0011_01.row.prog
noncomputable def hd.nth : List Stmt → Nat → Stmt
  | [], _ => .Pass ⟨0, 0, 0, 0⟩
  | s :: _, 0 => s
  | _ :: r, n + 1 => hd.nth r n
noncomputable def hd.top (i : Nat) : Stmt := hd.nth PG.main.body i
noncomputable def hd.sub (s : Stmt) (i : Nat) : Stmt := match s with
  | .ClassDef _ _ _ b .. => hd.nth b i
  | _ => s
noncomputable def hd.args (s : Stmt) : Arguments := match s with
  | .FunctionDef _ a .. => a
  | _ => ⟨[], [], none, [], [], none, []⟩
noncomputable def hd.body (s : Stmt) : List Stmt := match s with
  | .FunctionDef _ _ b .. => b
  | _ => []
noncomputable def hd.scope (s : Stmt) : Scope := match s with
  | .FunctionDef _ _ _ _ _ _ c .. => c
  | _ => ⟨.function, [], false, false, []⟩
noncomputable def hd.heap_39 : Params → Frag := fun P => (nat_lit 2, Obj.mk Value.none none (Data.dict #[DictEntry.mk (PyData.keyHash P (Str.ofString "type.__subclasses__.Exception.0")) (Value.str (Str.ofString "type.__subclasses__.Exception.0") 220) (Value.int 32 0), DictEntry.mk (PyData.keyHash P (Str.ofString "type.__subclasses__.Exception.n")) (Value.str (Str.ofString "type.__subclasses__.Exception.n") 221) (Value.int 1 0)] 2) #[]) ::
  (nat_lit 3, Obj.mk (Value.type "dict") none (Data.dict #[DictEntry.mk (PyData.keyHash P (Str.ofString "__name__")) (Value.str (Str.ofString "__name__") 165) (Value.str (Str.ofString "law_nt0011_01") 480), DictEntry.mk (PyData.keyHash P (Str.ofString "__doc__")) (Value.str (Str.ofString "__doc__") 166) Value.none, DictEntry.mk (PyData.keyHash P (Str.ofString "__package__")) (Value.str (Str.ofString "__package__") 167) Value.none, DictEntry.mk (PyData.keyHash P (Str.ofString "__loader__")) (Value.str (Str.ofString "__loader__") 168) (Value.builtin "__main__.__loader__#opaque"), DictEntry.mk (PyData.keyHash P (Str.ofString "__spec__")) (Value.str (Str.ofString "__spec__") 169) Value.none, DictEntry.mk (PyData.keyHash P (Str.ofString "__annotations__")) (Value.str (Str.ofString "__annotations__") 170) (Value.ref 6), DictEntry.mk (PyData.keyHash P (Str.ofString "__builtins__")) (Value.str (Str.ofString "__builtins__") 171) (Value.ref 4), DictEntry.mk (PyData.keyHash P (Str.ofString "__file__")) (Value.str (Str.ofString "__file__") 173) (Value.str (Str.ofString "/claim/cut.py") 172), DictEntry.mk (PyData.keyHash P (Str.ofString "__cached__")) (Value.str (Str.ofString "__cached__") 174) Value.none, DictEntry.mk (PyData.keyHash P (Str.ofString "MAX_CODE")) (Value.str (Str.ofString "MAX_CODE") 190) (Value.int 1114111 189), DictEntry.mk (PyData.keyHash P (Str.ofString "HIGH_FIRST")) (Value.str (Str.ofString "HIGH_FIRST") 192) (Value.int 55296 191), DictEntry.mk (PyData.keyHash P (Str.ofString "LOW_LAST")) (Value.str (Str.ofString "LOW_LAST") 194) (Value.int 57343 193), DictEntry.mk (PyData.keyHash P (Str.ofString "UniError")) (Value.str (Str.ofString "UniError") 223) (Value.ref 32), DictEntry.mk (PyData.keyHash P (Str.ofString "BadLabel")) (Value.str (Str.ofString "BadLabel") 239) (Value.ref 45), DictEntry.mk (PyData.keyHash P (Str.ofString "is_code")) (Value.str (Str.ofString "is_code") 246) (Value.ref 54), DictEntry.mk (PyData.keyHash P (Str.ofString "is_surrogate")) (Value.str (Str.ofString "is_surrogate") 253) (Value.ref 61), DictEntry.mk (PyData.keyHash P (Str.ofString "is_scalar")) (Value.str (Str.ofString "is_scalar") 260) (Value.ref 68), DictEntry.mk (PyData.keyHash P (Str.ofString "HYPHEN")) (Value.str (Str.ofString "HYPHEN") 264) (Value.int 45 263), DictEntry.mk (PyData.keyHash P (Str.ofString "SMALL_A")) (Value.str (Str.ofString "SMALL_A") 266) (Value.int 97 265), DictEntry.mk (PyData.keyHash P (Str.ofString "CAPITAL_A")) (Value.str (Str.ofString "CAPITAL_A") 268) (Value.int 65 267), DictEntry.mk (PyData.keyHash P (Str.ofString "NOUGHT")) (Value.str (Str.ofString "NOUGHT") 270) (Value.int 48 269), DictEntry.mk (PyData.keyHash P (Str.ofString "LETTERS")) (Value.str (Str.ofString "LETTERS") 272) (Value.int 26 271), DictEntry.mk (PyData.keyHash P (Str.ofString "FIGURES")) (Value.str (Str.ofString "FIGURES") 274) (Value.int 10 273), DictEntry.mk (PyData.keyHash P (Str.ofString "CASE_BIT")) (Value.str (Str.ofString "CASE_BIT") 276) (Value.int 32 275), DictEntry.mk (PyData.keyHash P (Str.ofString "PunyNumbers")) (Value.str (Str.ofString "PunyNumbers") 345) (Value.ref 100), DictEntry.mk (PyData.keyHash P (Str.ofString "puny_figure")) (Value.str (Str.ofString "puny_figure") 353) (Value.ref 112), DictEntry.mk (PyData.keyHash P (Str.ofString "puny_value")) (Value.str (Str.ofString "puny_value") 360) (Value.ref 119), DictEntry.mk (PyData.keyHash P (Str.ofString "puny_number")) (Value.str (Str.ofString "puny_number") 374) (Value.ref 127), DictEntry.mk (PyData.keyHash P (Str.ofString "puny_number_at")) (Value.str (Str.ofString "puny_number_at") 389) (Value.ref 134), DictEntry.mk (PyData.keyHash P (Str.ofString "puny_basic")) (Value.str (Str.ofString "puny_basic") 397) (Value.ref 141), DictEntry.mk (PyData.keyHash P (Str.ofString "puny_check")) (Value.str (Str.ofString "puny_check") 405) (Value.ref 148), DictEntry.mk (PyData.keyHash P (Str.ofString "puny_least_from")) (Value.str (Str.ofString "puny_least_from") 411) (Value.ref 153), DictEntry.mk (PyData.keyHash P (Str.ofString "puny_cased")) (Value.str (Str.ofString "puny_cased") 419) (Value.ref 160), DictEntry.mk (PyData.keyHash P (Str.ofString "encode_label")) (Value.str (Str.ofString "encode_label") 438) (Value.ref 168), DictEntry.mk (PyData.keyHash P (Str.ofString "puny_split")) (Value.str (Str.ofString "puny_split") 446) (Value.ref 175), DictEntry.mk (PyData.keyHash P (Str.ofString "puny_is_capital")) (Value.str (Str.ofString "puny_is_capital") 453) (Value.ref 182), DictEntry.mk (PyData.keyHash P (Str.ofString "decode_annotated")) (Value.str (Str.ofString "decode_annotated") 471) (Value.ref 190), DictEntry.mk (PyData.keyHash P (Str.ofString "decode_label")) (Value.str (Str.ofString "decode_label") 479) (Value.ref 198), DictEntry.mk (PyData.keyHash P (Str.ofString "_law_deck")) (Value.str (Str.ofString "_law_deck") 487) (Value.ref 203), DictEntry.mk (PyData.keyHash P (Str.ofString "_law_draw")) (Value.str (Str.ofString "_law_draw") 495) (Value.ref 210), DictEntry.mk (PyData.keyHash P (Str.ofString "_law_adapted")) (Value.str (Str.ofString "_law_adapted") 506) (Value.ref 217), DictEntry.mk (PyData.keyHash P (Str.ofString "_law_threshold")) (Value.str (Str.ofString "_law_threshold") 515) (Value.ref 224), DictEntry.mk (PyData.keyHash P (Str.ofString "_law_written")) (Value.str (Str.ofString "_law_written") 521) (Value.ref 229), DictEntry.mk (PyData.keyHash P (Str.ofString "_law_figure")) (Value.str (Str.ofString "_law_figure") 533) (Value.ref 236), DictEntry.mk (PyData.keyHash P (Str.ofString "_law_read")) (Value.str (Str.ofString "_law_read") 539) (Value.ref 241), DictEntry.mk (PyData.keyHash P (Str.ofString "_law_told")) (Value.str (Str.ofString "_law_told") 549) (Value.ref 248), DictEntry.mk (PyData.keyHash P (Str.ofString "law")) (Value.str (Str.ofString "law") 555) (Value.ref 253)] 47) #[]) ::
  (nat_lit 15, Obj.mk (Value.type "tuple") none (Data.seq #[Value.type "Exception"]) #[]) ::
  (nat_lit 22, Obj.mk (Value.type "tuple") none (Data.seq #[Value.none]) #[]) ::
  (nat_lit 23, Obj.mk (Value.type "tuple") none (Data.seq #[]) #[]) ::
  (nat_lit 25, Obj.mk (Value.type "tuple") none (Data.seq #[Value.str (Str.ofString "self") 210, Value.str (Str.ofString "told") 211]) #[]) ::
  (nat_lit 26, Obj.mk (Value.type "tuple") none (Data.seq #[]) #[]) ::
  (nat_lit 28, Obj.mk (Value.type "code") none (Data.fields #[Value.str (Str.ofString "__init__") 207, Value.str (Str.ofString "UniError.__init__") 208, Value.str (Str.ofString "/claim/cut.py") 209, Value.int 7 0, Value.int 2 0, Value.int 0 0, Value.int 0 0, Value.int 3 0, Value.ref 23, Value.bool true, Value.int 181 0, Value.ref 24, Value.none, Value.ref 25, Value.ref 26, Value.ref 27, Value.int 212 0, Value.int 7 0, Value.str (Str.ofString "/claim/cut.py") 213]) #[]) ::
  (nat_lit 29, Obj.mk (Value.type "function") none (Data.func (FuncData.mk (Str.ofString "__init__") (Str.ofString "UniError.__init__") (hd.args (hd.sub (hd.top 4) 0)) (.stmts (hd.body (hd.sub (hd.top 4) 0))) (hd.scope (hd.sub (hd.top 4) 0)) 3 [] (Value.ref 22) Value.none Value.none (Value.str (Str.ofString "unicore.base") 187) none (Value.ref 28) Value.none 0)) #[]) ::
  (nat_lit 30, Obj.mk (Value.type "tuple") none (Data.seq #[Value.str (Str.ofString "told") 215]) #[]) ::
  (nat_lit 31, Obj.mk (Value.type "dict") none (Data.dict #[DictEntry.mk (PyData.keyHash P (Str.ofString "__module__")) (Value.str (Str.ofString "__module__") 202) (Value.str (Str.ofString "unicore.base") 187), DictEntry.mk (PyData.keyHash P (Str.ofString "__firstlineno__")) (Value.str (Str.ofString "__firstlineno__") 206) (Value.int 5 205), DictEntry.mk (PyData.keyHash P (Str.ofString "__init__")) (Value.str (Str.ofString "__init__") 214) (Value.ref 29), DictEntry.mk (PyData.keyHash P (Str.ofString "__static_attributes__")) (Value.str (Str.ofString "__static_attributes__") 216) (Value.ref 30), DictEntry.mk (PyData.keyHash P (Str.ofString "__weakref__")) (Value.str (Str.ofString "__weakref__") 218) (Value.ref 33), DictEntry.mk (PyData.keyHash P (Str.ofString "__doc__")) (Value.str (Str.ofString "__doc__") 219) Value.none] 3) #[]) ::
  (nat_lit 32, Obj.mk (Value.type "type") none (Data.cls (ClassData.mk (Str.ofString "UniError") [Value.type "Exception"] [Value.ref 32, Value.type "Exception", Value.type "BaseException", Value.type "object"] 31 (Str.ofString "UniError") true [] [Value.ref 45] false none false)) #[some (Value.ref 15), none, some (Value.str (Str.ofString "UniError") 195), some (Value.str (Str.ofString "UniError") 203), some (Value.builtin "Exception.__new__"), some (Value.bool true)]) ::
  (nat_lit 33, Obj.mk (Value.type "getset_descriptor") none (Data.fields #[Value.str (Str.ofString "__weakref__") 217, Value.ref 32, Value.builtin "ExceptionGroup.__weakref__", Value.none]) #[]) ::
  (nat_lit 36, Obj.mk (Value.type "tuple") none (Data.seq #[Value.ref 32]) #[]) ::
  (nat_lit 43, Obj.mk (Value.type "tuple") none (Data.seq #[]) #[]) ::
  (nat_lit 44, Obj.mk (Value.type "dict") none (Data.dict #[DictEntry.mk (PyData.keyHash P (Str.ofString "__module__")) (Value.str (Str.ofString "__module__") 231) (Value.str (Str.ofString "unicore.base") 187), DictEntry.mk (PyData.keyHash P (Str.ofString "__firstlineno__")) (Value.str (Str.ofString "__firstlineno__") 235) (Value.int 9 234), DictEntry.mk (PyData.keyHash P (Str.ofString "__static_attributes__")) (Value.str (Str.ofString "__static_attributes__") 236) (Value.ref 43), DictEntry.mk (PyData.keyHash P (Str.ofString "__doc__")) (Value.str (Str.ofString "__doc__") 237) Value.none] 2) #[]) ::
  (nat_lit 45, Obj.mk (Value.type "type") none (Data.cls (ClassData.mk (Str.ofString "BadLabel") [Value.ref 32] [Value.ref 45, Value.ref 32, Value.type "Exception", Value.type "BaseException", Value.type "object"] 44 (Str.ofString "BadLabel") true [] [] false none false)) #[some (Value.ref 36), none, some (Value.str (Str.ofString "BadLabel") 224), some (Value.str (Str.ofString "BadLabel") 232), some (Value.builtin "Exception.__new__"), some (Value.bool true)]) ::
  (nat_lit 48, Obj.mk (Value.type "tuple") none (Data.seq #[]) #[]) ::
  (nat_lit 50, Obj.mk (Value.type "tuple") none (Data.seq #[Value.str (Str.ofString "number") 243]) #[]) ::
  (nat_lit 51, Obj.mk (Value.type "tuple") none (Data.seq #[]) #[]) ::
  (nat_lit 53, Obj.mk (Value.type "code") none (Data.fields #[Value.str (Str.ofString "is_code") 240, Value.str (Str.ofString "is_code") 241, Value.str (Str.ofString "/claim/cut.py") 242, Value.int 11 0, Value.int 1 0, Value.int 0 0, Value.int 0 0, Value.int 3 0, Value.ref 48, Value.bool true, Value.int 181 0, Value.ref 49, Value.none, Value.ref 50, Value.ref 51, Value.ref 52, Value.int 244 0, Value.int 11 0, Value.str (Str.ofString "/claim/cut.py") 245]) #[]) ::
  (nat_lit 54, Obj.mk (Value.type "function") none (Data.func (FuncData.mk (Str.ofString "is_code") (Str.ofString "is_code") (hd.args (hd.top 6)) (.stmts (hd.body (hd.top 6))) (hd.scope (hd.top 6)) 3 [] Value.none Value.none Value.none (Value.str (Str.ofString "unicore.base") 187) none (Value.ref 53) Value.none 0)) #[]) ::
  (nat_lit 55, Obj.mk (Value.type "tuple") none (Data.seq #[]) #[]) ::
  (nat_lit 57, Obj.mk (Value.type "tuple") none (Data.seq #[Value.str (Str.ofString "code") 250]) #[]) ::
  (nat_lit 58, Obj.mk (Value.type "tuple") none (Data.seq #[]) #[]) ::
  (nat_lit 60, Obj.mk (Value.type "code") none (Data.fields #[Value.str (Str.ofString "is_surrogate") 247, Value.str (Str.ofString "is_surrogate") 248, Value.str (Str.ofString "/claim/cut.py") 249, Value.int 13 0, Value.int 1 0, Value.int 0 0, Value.int 0 0, Value.int 3 0, Value.ref 55, Value.bool true, Value.int 181 0, Value.ref 56, Value.none, Value.ref 57, Value.ref 58, Value.ref 59, Value.int 251 0, Value.int 13 0, Value.str (Str.ofString "/claim/cut.py") 252]) #[]) ::
  (nat_lit 61, Obj.mk (Value.type "function") none (Data.func (FuncData.mk (Str.ofString "is_surrogate") (Str.ofString "is_surrogate") (hd.args (hd.top 7)) (.stmts (hd.body (hd.top 7))) (hd.scope (hd.top 7)) 3 [] Value.none Value.none Value.none (Value.str (Str.ofString "unicore.base") 187) none (Value.ref 60) Value.none 0)) #[]) ::
  (nat_lit 62, Obj.mk (Value.type "tuple") none (Data.seq #[]) #[]) ::
  (nat_lit 64, Obj.mk (Value.type "tuple") none (Data.seq #[Value.str (Str.ofString "number") 257]) #[]) ::
  (nat_lit 65, Obj.mk (Value.type "tuple") none (Data.seq #[]) #[]) ::
  (nat_lit 67, Obj.mk (Value.type "code") none (Data.fields #[Value.str (Str.ofString "is_scalar") 254, Value.str (Str.ofString "is_scalar") 255, Value.str (Str.ofString "/claim/cut.py") 256, Value.int 15 0, Value.int 1 0, Value.int 0 0, Value.int 0 0, Value.int 3 0, Value.ref 62, Value.bool true, Value.int 181 0, Value.ref 63, Value.none, Value.ref 64, Value.ref 65, Value.ref 66, Value.int 258 0, Value.int 15 0, Value.str (Str.ofString "/claim/cut.py") 259]) #[]) ::
  (nat_lit 68, Obj.mk (Value.type "function") none (Data.func (FuncData.mk (Str.ofString "is_scalar") (Str.ofString "is_scalar") (hd.args (hd.top 8)) (.stmts (hd.body (hd.top 8))) (hd.scope (hd.top 8)) 3 [] Value.none Value.none Value.none (Value.str (Str.ofString "unicore.base") 187) none (Value.ref 67) Value.none 0)) #[]) ::
  (nat_lit 76, Obj.mk (Value.type "tuple") none (Data.seq #[Value.int 36 289, Value.int 1 290, Value.int 26 291, Value.int 38 292, Value.int 700 293, Value.int 72 294, Value.int 128 295]) #[]) ::
  (nat_lit 77, Obj.mk (Value.type "tuple") none (Data.seq #[]) #[]) ::
  (nat_lit 79, Obj.mk (Value.type "tuple") none (Data.seq #[Value.str (Str.ofString "self") 299, Value.str (Str.ofString "base") 300, Value.str (Str.ofString "least") 301, Value.str (Str.ofString "most") 302, Value.str (Str.ofString "skew") 303, Value.str (Str.ofString "damp") 304, Value.str (Str.ofString "bias") 305, Value.str (Str.ofString "first") 306]) #[]) ::
  (nat_lit 80, Obj.mk (Value.type "tuple") none (Data.seq #[]) #[]) ::
  (nat_lit 82, Obj.mk (Value.type "code") none (Data.fields #[Value.str (Str.ofString "__init__") 296, Value.str (Str.ofString "PunyNumbers.__init__") 297, Value.str (Str.ofString "/claim/cut.py") 298, Value.int 27 0, Value.int 8 0, Value.int 0 0, Value.int 0 0, Value.int 3 0, Value.ref 77, Value.bool true, Value.int 181 0, Value.ref 78, Value.none, Value.ref 79, Value.ref 80, Value.ref 81, Value.int 307 0, Value.int 27 0, Value.str (Str.ofString "/claim/cut.py") 308]) #[]) ::
  (nat_lit 83, Obj.mk (Value.type "function") none (Data.func (FuncData.mk (Str.ofString "__init__") (Str.ofString "PunyNumbers.__init__") (hd.args (hd.sub (hd.top 17) 0)) (.stmts (hd.body (hd.sub (hd.top 17) 0))) (hd.scope (hd.sub (hd.top 17) 0)) 3 [] (Value.ref 76) Value.none Value.none (Value.str (Str.ofString "unicore.punycode") 261) none (Value.ref 82) Value.none 0)) #[]) ::
  (nat_lit 84, Obj.mk (Value.type "tuple") none (Data.seq #[]) #[]) ::
  (nat_lit 86, Obj.mk (Value.type "tuple") none (Data.seq #[Value.str (Str.ofString "self") 313, Value.str (Str.ofString "place") 314, Value.str (Str.ofString "bias") 315, Value.str (Str.ofString "told") 316]) #[]) ::
  (nat_lit 87, Obj.mk (Value.type "tuple") none (Data.seq #[]) #[]) ::
  (nat_lit 89, Obj.mk (Value.type "code") none (Data.fields #[Value.str (Str.ofString "threshold") 310, Value.str (Str.ofString "PunyNumbers.threshold") 311, Value.str (Str.ofString "/claim/cut.py") 312, Value.int 36 0, Value.int 3 0, Value.int 0 0, Value.int 0 0, Value.int 3 0, Value.ref 84, Value.bool true, Value.int 181 0, Value.ref 85, Value.none, Value.ref 86, Value.ref 87, Value.ref 88, Value.int 317 0, Value.int 36 0, Value.str (Str.ofString "/claim/cut.py") 318]) #[]) ::
  (nat_lit 90, Obj.mk (Value.type "function") none (Data.func (FuncData.mk (Str.ofString "threshold") (Str.ofString "PunyNumbers.threshold") (hd.args (hd.sub (hd.top 17) 1)) (.stmts (hd.body (hd.sub (hd.top 17) 1))) (hd.scope (hd.sub (hd.top 17) 1)) 3 [] Value.none Value.none Value.none (Value.str (Str.ofString "unicore.punycode") 261) none (Value.ref 89) Value.none 0)) #[]) ::
  (nat_lit 91, Obj.mk (Value.type "tuple") none (Data.seq #[]) #[]) ::
  (nat_lit 93, Obj.mk (Value.type "tuple") none (Data.seq #[Value.str (Str.ofString "self") 323, Value.str (Str.ofString "delta") 324, Value.str (Str.ofString "many") 325, Value.str (Str.ofString "is_first") 326, Value.str (Str.ofString "count") 327]) #[]) ::
  (nat_lit 94, Obj.mk (Value.type "tuple") none (Data.seq #[]) #[]) ::
  (nat_lit 96, Obj.mk (Value.type "code") none (Data.fields #[Value.str (Str.ofString "adapted") 320, Value.str (Str.ofString "PunyNumbers.adapted") 321, Value.str (Str.ofString "/claim/cut.py") 322, Value.int 40 0, Value.int 4 0, Value.int 0 0, Value.int 0 0, Value.int 3 0, Value.ref 91, Value.bool true, Value.int 181 0, Value.ref 92, Value.none, Value.ref 93, Value.ref 94, Value.ref 95, Value.int 328 0, Value.int 40 0, Value.str (Str.ofString "/claim/cut.py") 329]) #[]) ::
  (nat_lit 97, Obj.mk (Value.type "function") none (Data.func (FuncData.mk (Str.ofString "adapted") (Str.ofString "PunyNumbers.adapted") (hd.args (hd.sub (hd.top 17) 2)) (.stmts (hd.body (hd.sub (hd.top 17) 2))) (hd.scope (hd.sub (hd.top 17) 2)) 3 [] Value.none Value.none Value.none (Value.str (Str.ofString "unicore.punycode") 261) none (Value.ref 96) Value.none 0)) #[]) ::
  (nat_lit 98, Obj.mk (Value.type "tuple") none (Data.seq #[Value.str (Str.ofString "base") 331, Value.str (Str.ofString "bias") 332, Value.str (Str.ofString "damp") 333, Value.str (Str.ofString "first") 334, Value.str (Str.ofString "least") 335, Value.str (Str.ofString "most") 336, Value.str (Str.ofString "skew") 337]) #[]) ::
  (nat_lit 99, Obj.mk (Value.type "dict") none (Data.dict #[DictEntry.mk (PyData.keyHash P (Str.ofString "__module__")) (Value.str (Str.ofString "__module__") 284) (Value.str (Str.ofString "unicore.punycode") 261), DictEntry.mk (PyData.keyHash P (Str.ofString "__firstlineno__")) (Value.str (Str.ofString "__firstlineno__") 288) (Value.int 25 287), DictEntry.mk (PyData.keyHash P (Str.ofString "__init__")) (Value.str (Str.ofString "__init__") 309) (Value.ref 83), DictEntry.mk (PyData.keyHash P (Str.ofString "threshold")) (Value.str (Str.ofString "threshold") 319) (Value.ref 90), DictEntry.mk (PyData.keyHash P (Str.ofString "adapted")) (Value.str (Str.ofString "adapted") 330) (Value.ref 97), DictEntry.mk (PyData.keyHash P (Str.ofString "__static_attributes__")) (Value.str (Str.ofString "__static_attributes__") 338) (Value.ref 98), DictEntry.mk (PyData.keyHash P (Str.ofString "__dict__")) (Value.str (Str.ofString "__dict__") 340) (Value.ref 101), DictEntry.mk (PyData.keyHash P (Str.ofString "__weakref__")) (Value.str (Str.ofString "__weakref__") 342) (Value.ref 102), DictEntry.mk (PyData.keyHash P (Str.ofString "__doc__")) (Value.str (Str.ofString "__doc__") 343) Value.none] 4) #[]) ::
  (nat_lit 100, Obj.mk (Value.type "type") none (Data.cls (ClassData.mk (Str.ofString "PunyNumbers") [Value.type "object"] [Value.ref 100, Value.type "object"] 99 (Str.ofString "PunyNumbers") true [] [] false none false)) #[none, none, some (Value.str (Str.ofString "PunyNumbers") 277), some (Value.str (Str.ofString "PunyNumbers") 285), some (Value.builtin "object.__new__"), some (Value.bool true)]) ::
  (nat_lit 101, Obj.mk (Value.type "getset_descriptor") none (Data.fields #[Value.str (Str.ofString "__dict__") 339, Value.ref 100, Value.builtin "function.__dict__", Value.builtin "function.__dict__#set"]) #[]) ::
  (nat_lit 102, Obj.mk (Value.type "getset_descriptor") none (Data.fields #[Value.str (Str.ofString "__weakref__") 341, Value.ref 100, Value.builtin "ExceptionGroup.__weakref__", Value.none]) #[]) ::
  (nat_lit 105, Obj.mk (Value.type "tuple") none (Data.seq #[Value.bool false]) #[]) ::
  (nat_lit 106, Obj.mk (Value.type "tuple") none (Data.seq #[]) #[]) ::
  (nat_lit 108, Obj.mk (Value.type "tuple") none (Data.seq #[Value.str (Str.ofString "value") 349, Value.str (Str.ofString "is_capital") 350]) #[]) ::
  (nat_lit 109, Obj.mk (Value.type "tuple") none (Data.seq #[]) #[]) ::
  (nat_lit 111, Obj.mk (Value.type "code") none (Data.fields #[Value.str (Str.ofString "puny_figure") 346, Value.str (Str.ofString "puny_figure") 347, Value.str (Str.ofString "/claim/cut.py") 348, Value.int 48 0, Value.int 2 0, Value.int 0 0, Value.int 0 0, Value.int 3 0, Value.ref 106, Value.bool true, Value.int 181 0, Value.ref 107, Value.none, Value.ref 108, Value.ref 109, Value.ref 110, Value.int 351 0, Value.int 48 0, Value.str (Str.ofString "/claim/cut.py") 352]) #[]) ::
  (nat_lit 112, Obj.mk (Value.type "function") none (Data.func (FuncData.mk (Str.ofString "puny_figure") (Str.ofString "puny_figure") (hd.args (hd.top 18)) (.stmts (hd.body (hd.top 18))) (hd.scope (hd.top 18)) 3 [] (Value.ref 105) Value.none Value.none (Value.str (Str.ofString "unicore.punycode") 261) none (Value.ref 111) Value.none 0)) #[]) ::
  (nat_lit 113, Obj.mk (Value.type "tuple") none (Data.seq #[]) #[]) ::
  (nat_lit 115, Obj.mk (Value.type "tuple") none (Data.seq #[Value.str (Str.ofString "octet") 357]) #[]) ::
  (nat_lit 116, Obj.mk (Value.type "tuple") none (Data.seq #[]) #[]) ::
  (nat_lit 118, Obj.mk (Value.type "code") none (Data.fields #[Value.str (Str.ofString "puny_value") 354, Value.str (Str.ofString "puny_value") 355, Value.str (Str.ofString "/claim/cut.py") 356, Value.int 52 0, Value.int 1 0, Value.int 0 0, Value.int 0 0, Value.int 3 0, Value.ref 113, Value.bool true, Value.int 181 0, Value.ref 114, Value.none, Value.ref 115, Value.ref 116, Value.ref 117, Value.int 358 0, Value.int 52 0, Value.str (Str.ofString "/claim/cut.py") 359]) #[]) ::
  (nat_lit 119, Obj.mk (Value.type "function") none (Data.func (FuncData.mk (Str.ofString "puny_value") (Str.ofString "puny_value") (hd.args (hd.top 19)) (.stmts (hd.body (hd.top 19))) (hd.scope (hd.top 19)) 3 [] Value.none Value.none Value.none (Value.str (Str.ofString "unicore.punycode") 261) none (Value.ref 118) Value.none 0)) #[]) ::
  (nat_lit 120, Obj.mk (Value.type "tuple") none (Data.seq #[Value.bool false]) #[]) ::
  (nat_lit 121, Obj.mk (Value.type "tuple") none (Data.seq #[]) #[]) ::
  (nat_lit 123, Obj.mk (Value.type "tuple") none (Data.seq #[Value.str (Str.ofString "value") 364, Value.str (Str.ofString "bias") 365, Value.str (Str.ofString "numbers") 366, Value.str (Str.ofString "is_capital") 367, Value.str (Str.ofString "found") 368, Value.str (Str.ofString "place") 369, Value.str (Str.ofString "least") 370, Value.str (Str.ofString "span") 371]) #[]) ::
  (nat_lit 124, Obj.mk (Value.type "tuple") none (Data.seq #[]) #[]) ::
  (nat_lit 126, Obj.mk (Value.type "code") none (Data.fields #[Value.str (Str.ofString "puny_number") 361, Value.str (Str.ofString "puny_number") 362, Value.str (Str.ofString "/claim/cut.py") 363, Value.int 60 0, Value.int 4 0, Value.int 0 0, Value.int 0 0, Value.int 3 0, Value.ref 121, Value.bool true, Value.int 181 0, Value.ref 122, Value.none, Value.ref 123, Value.ref 124, Value.ref 125, Value.int 372 0, Value.int 60 0, Value.str (Str.ofString "/claim/cut.py") 373]) #[]) ::
  (nat_lit 127, Obj.mk (Value.type "function") none (Data.func (FuncData.mk (Str.ofString "puny_number") (Str.ofString "puny_number") (hd.args (hd.top 20)) (.stmts (hd.body (hd.top 20))) (hd.scope (hd.top 20)) 3 [] (Value.ref 120) Value.none Value.none (Value.str (Str.ofString "unicore.punycode") 261) none (Value.ref 126) Value.none 0)) #[]) ::
  (nat_lit 128, Obj.mk (Value.type "tuple") none (Data.seq #[]) #[]) ::
  (nat_lit 130, Obj.mk (Value.type "tuple") none (Data.seq #[Value.str (Str.ofString "octets") 378, Value.str (Str.ofString "at") 379, Value.str (Str.ofString "bias") 380, Value.str (Str.ofString "numbers") 381, Value.str (Str.ofString "value") 382, Value.str (Str.ofString "weight") 383, Value.str (Str.ofString "place") 384, Value.str (Str.ofString "figure") 385, Value.str (Str.ofString "least") 386]) #[]) ::
  (nat_lit 131, Obj.mk (Value.type "tuple") none (Data.seq #[]) #[]) ::
  (nat_lit 133, Obj.mk (Value.type "code") none (Data.fields #[Value.str (Str.ofString "puny_number_at") 375, Value.str (Str.ofString "puny_number_at") 376, Value.str (Str.ofString "/claim/cut.py") 377, Value.int 71 0, Value.int 4 0, Value.int 0 0, Value.int 0 0, Value.int 3 0, Value.ref 128, Value.bool true, Value.int 181 0, Value.ref 129, Value.none, Value.ref 130, Value.ref 131, Value.ref 132, Value.int 387 0, Value.int 71 0, Value.str (Str.ofString "/claim/cut.py") 388]) #[]) ::
  (nat_lit 134, Obj.mk (Value.type "function") none (Data.func (FuncData.mk (Str.ofString "puny_number_at") (Str.ofString "puny_number_at") (hd.args (hd.top 21)) (.stmts (hd.body (hd.top 21))) (hd.scope (hd.top 21)) 3 [] Value.none Value.none Value.none (Value.str (Str.ofString "unicore.punycode") 261) none (Value.ref 133) Value.none 0)) #[]) ::
  (nat_lit 135, Obj.mk (Value.type "tuple") none (Data.seq #[]) #[]) ::
  (nat_lit 137, Obj.mk (Value.type "tuple") none (Data.seq #[Value.str (Str.ofString "code") 393, Value.str (Str.ofString "numbers") 394]) #[]) ::
  (nat_lit 138, Obj.mk (Value.type "tuple") none (Data.seq #[]) #[]) ::
  (nat_lit 140, Obj.mk (Value.type "code") none (Data.fields #[Value.str (Str.ofString "puny_basic") 390, Value.str (Str.ofString "puny_basic") 391, Value.str (Str.ofString "/claim/cut.py") 392, Value.int 86 0, Value.int 2 0, Value.int 0 0, Value.int 0 0, Value.int 3 0, Value.ref 135, Value.bool true, Value.int 181 0, Value.ref 136, Value.none, Value.ref 137, Value.ref 138, Value.ref 139, Value.int 395 0, Value.int 86 0, Value.str (Str.ofString "/claim/cut.py") 396]) #[]) ::
  (nat_lit 141, Obj.mk (Value.type "function") none (Data.func (FuncData.mk (Str.ofString "puny_basic") (Str.ofString "puny_basic") (hd.args (hd.top 22)) (.stmts (hd.body (hd.top 22))) (hd.scope (hd.top 22)) 3 [] Value.none Value.none Value.none (Value.str (Str.ofString "unicore.punycode") 261) none (Value.ref 140) Value.none 0)) #[]) ::
  (nat_lit 142, Obj.mk (Value.type "tuple") none (Data.seq #[]) #[]) ::
  (nat_lit 144, Obj.mk (Value.type "tuple") none (Data.seq #[Value.str (Str.ofString "text") 401, Value.str (Str.ofString "code") 402]) #[]) ::
  (nat_lit 145, Obj.mk (Value.type "tuple") none (Data.seq #[]) #[]) ::
  (nat_lit 147, Obj.mk (Value.type "code") none (Data.fields #[Value.str (Str.ofString "puny_check") 398, Value.str (Str.ofString "puny_check") 399, Value.str (Str.ofString "/claim/cut.py") 400, Value.int 88 0, Value.int 1 0, Value.int 0 0, Value.int 0 0, Value.int 3 0, Value.ref 142, Value.bool true, Value.int 181 0, Value.ref 143, Value.none, Value.ref 144, Value.ref 145, Value.ref 146, Value.int 403 0, Value.int 88 0, Value.str (Str.ofString "/claim/cut.py") 404]) #[]) ::
  (nat_lit 148, Obj.mk (Value.type "function") none (Data.func (FuncData.mk (Str.ofString "puny_check") (Str.ofString "puny_check") (hd.args (hd.top 23)) (.stmts (hd.body (hd.top 23))) (hd.scope (hd.top 23)) 3 [] Value.none Value.none Value.none (Value.str (Str.ofString "unicore.punycode") 261) none (Value.ref 147) Value.none 0)) #[]) ::
  (nat_lit 149, Obj.mk (Value.type "tuple") none (Data.seq #[]) #[]) ::
  (nat_lit 152, Obj.mk (Value.type "code") none (Data.fields #[Value.str (Str.ofString "puny_least_from") 406, Value.str (Str.ofString "puny_least_from") 407, Value.str (Str.ofString "/claim/cut.py") 408, Value.int 92 0, Value.int 2 0, Value.int 0 0, Value.int 0 0, Value.int 3 0, Value.ref 149, Value.bool true, Value.int 181 0, Value.ref 150, Value.none, Value.none, Value.none, Value.ref 151, Value.int 409 0, Value.int 92 0, Value.str (Str.ofString "/claim/cut.py") 410]) #[]) ::
  (nat_lit 153, Obj.mk (Value.type "function") none (Data.func (FuncData.mk (Str.ofString "puny_least_from") (Str.ofString "puny_least_from") (hd.args (hd.top 24)) (.stmts (hd.body (hd.top 24))) (hd.scope (hd.top 24)) 3 [] Value.none Value.none Value.none (Value.str (Str.ofString "unicore.punycode") 261) none (Value.ref 152) Value.none 0)) #[]) ::
  (nat_lit 154, Obj.mk (Value.type "tuple") none (Data.seq #[]) #[]) ::
  (nat_lit 156, Obj.mk (Value.type "tuple") none (Data.seq #[Value.str (Str.ofString "code") 415, Value.str (Str.ofString "is_capital") 416]) #[]) ::
  (nat_lit 157, Obj.mk (Value.type "tuple") none (Data.seq #[]) #[]) ::
  (nat_lit 159, Obj.mk (Value.type "code") none (Data.fields #[Value.str (Str.ofString "puny_cased") 412, Value.str (Str.ofString "puny_cased") 413, Value.str (Str.ofString "/claim/cut.py") 414, Value.int 94 0, Value.int 2 0, Value.int 0 0, Value.int 0 0, Value.int 3 0, Value.ref 154, Value.bool true, Value.int 181 0, Value.ref 155, Value.none, Value.ref 156, Value.ref 157, Value.ref 158, Value.int 417 0, Value.int 94 0, Value.str (Str.ofString "/claim/cut.py") 418]) #[]) ::
  (nat_lit 160, Obj.mk (Value.type "function") none (Data.func (FuncData.mk (Str.ofString "puny_cased") (Str.ofString "puny_cased") (hd.args (hd.top 25)) (.stmts (hd.body (hd.top 25))) (hd.scope (hd.top 25)) 3 [] Value.none Value.none Value.none (Value.str (Str.ofString "unicore.punycode") 261) none (Value.ref 159) Value.none 0)) #[]) ::
  (nat_lit 161, Obj.mk (Value.type "tuple") none (Data.seq #[Value.none, Value.none]) #[]) ::
  (nat_lit 162, Obj.mk (Value.type "tuple") none (Data.seq #[]) #[]) ::
  (nat_lit 164, Obj.mk (Value.type "tuple") none (Data.seq #[Value.str (Str.ofString "text") 423, Value.str (Str.ofString "numbers") 424, Value.str (Str.ofString "capitals") 425, Value.str (Str.ofString "wished") 426, Value.str (Str.ofString "found") 427, Value.str (Str.ofString "place") 428, Value.str (Str.ofString "code") 429, Value.str (Str.ofString "many_basic") 430, Value.str (Str.ofString "done") 431, Value.str (Str.ofString "delta") 432, Value.str (Str.ofString "bias") 433, Value.str (Str.ofString "least") 434, Value.str (Str.ofString "one") 435]) #[]) ::
  (nat_lit 165, Obj.mk (Value.type "tuple") none (Data.seq #[]) #[]) ::
  (nat_lit 167, Obj.mk (Value.type "code") none (Data.fields #[Value.str (Str.ofString "encode_label") 420, Value.str (Str.ofString "encode_label") 421, Value.str (Str.ofString "/claim/cut.py") 422, Value.int 98 0, Value.int 3 0, Value.int 0 0, Value.int 0 0, Value.int 3 0, Value.ref 162, Value.bool true, Value.int 181 0, Value.ref 163, Value.none, Value.ref 164, Value.ref 165, Value.ref 166, Value.int 436 0, Value.int 98 0, Value.str (Str.ofString "/claim/cut.py") 437]) #[]) ::
  (nat_lit 168, Obj.mk (Value.type "function") none (Data.func (FuncData.mk (Str.ofString "encode_label") (Str.ofString "encode_label") (hd.args (hd.top 26)) (.stmts (hd.body (hd.top 26))) (hd.scope (hd.top 26)) 3 [] (Value.ref 161) Value.none Value.none (Value.str (Str.ofString "unicore.punycode") 261) none (Value.ref 167) Value.none 0)) #[]) ::
  (nat_lit 169, Obj.mk (Value.type "tuple") none (Data.seq #[]) #[]) ::
  (nat_lit 171, Obj.mk (Value.type "tuple") none (Data.seq #[Value.str (Str.ofString "octets") 442, Value.str (Str.ofString "at") 443]) #[]) ::
  (nat_lit 172, Obj.mk (Value.type "tuple") none (Data.seq #[]) #[]) ::
  (nat_lit 174, Obj.mk (Value.type "code") none (Data.fields #[Value.str (Str.ofString "puny_split") 439, Value.str (Str.ofString "puny_split") 440, Value.str (Str.ofString "/claim/cut.py") 441, Value.int 124 0, Value.int 1 0, Value.int 0 0, Value.int 0 0, Value.int 3 0, Value.ref 169, Value.bool true, Value.int 181 0, Value.ref 170, Value.none, Value.ref 171, Value.ref 172, Value.ref 173, Value.int 444 0, Value.int 124 0, Value.str (Str.ofString "/claim/cut.py") 445]) #[]) ::
  (nat_lit 175, Obj.mk (Value.type "function") none (Data.func (FuncData.mk (Str.ofString "puny_split") (Str.ofString "puny_split") (hd.args (hd.top 27)) (.stmts (hd.body (hd.top 27))) (hd.scope (hd.top 27)) 3 [] Value.none Value.none Value.none (Value.str (Str.ofString "unicore.punycode") 261) none (Value.ref 174) Value.none 0)) #[]) ::
  (nat_lit 176, Obj.mk (Value.type "tuple") none (Data.seq #[]) #[]) ::
  (nat_lit 178, Obj.mk (Value.type "tuple") none (Data.seq #[Value.str (Str.ofString "octet") 450]) #[]) ::
  (nat_lit 179, Obj.mk (Value.type "tuple") none (Data.seq #[]) #[]) ::
  (nat_lit 181, Obj.mk (Value.type "code") none (Data.fields #[Value.str (Str.ofString "puny_is_capital") 447, Value.str (Str.ofString "puny_is_capital") 448, Value.str (Str.ofString "/claim/cut.py") 449, Value.int 131 0, Value.int 1 0, Value.int 0 0, Value.int 0 0, Value.int 3 0, Value.ref 176, Value.bool true, Value.int 181 0, Value.ref 177, Value.none, Value.ref 178, Value.ref 179, Value.ref 180, Value.int 451 0, Value.int 131 0, Value.str (Str.ofString "/claim/cut.py") 452]) #[]) ::
  (nat_lit 182, Obj.mk (Value.type "function") none (Data.func (FuncData.mk (Str.ofString "puny_is_capital") (Str.ofString "puny_is_capital") (hd.args (hd.top 28)) (.stmts (hd.body (hd.top 28))) (hd.scope (hd.top 28)) 3 [] Value.none Value.none Value.none (Value.str (Str.ofString "unicore.punycode") 261) none (Value.ref 181) Value.none 0)) #[]) ::
  (nat_lit 183, Obj.mk (Value.type "tuple") none (Data.seq #[Value.none]) #[]) ::
  (nat_lit 184, Obj.mk (Value.type "tuple") none (Data.seq #[]) #[]) ::
  (nat_lit 186, Obj.mk (Value.type "tuple") none (Data.seq #[Value.str (Str.ofString "octets") 457, Value.str (Str.ofString "numbers") 458, Value.str (Str.ofString "basic") 459, Value.str (Str.ofString "at") 460, Value.str (Str.ofString "text") 461, Value.str (Str.ofString "capitals") 462, Value.str (Str.ofString "octet") 463, Value.str (Str.ofString "code") 464, Value.str (Str.ofString "index") 465, Value.str (Str.ofString "bias") 466, Value.str (Str.ofString "delta") 467, Value.str (Str.ofString "many") 468]) #[]) ::
  (nat_lit 187, Obj.mk (Value.type "tuple") none (Data.seq #[]) #[]) ::
  (nat_lit 189, Obj.mk (Value.type "code") none (Data.fields #[Value.str (Str.ofString "decode_annotated") 454, Value.str (Str.ofString "decode_annotated") 455, Value.str (Str.ofString "/claim/cut.py") 456, Value.int 133 0, Value.int 2 0, Value.int 0 0, Value.int 0 0, Value.int 3 0, Value.ref 184, Value.bool true, Value.int 181 0, Value.ref 185, Value.none, Value.ref 186, Value.ref 187, Value.ref 188, Value.int 469 0, Value.int 133 0, Value.str (Str.ofString "/claim/cut.py") 470]) #[]) ::
  (nat_lit 190, Obj.mk (Value.type "function") none (Data.func (FuncData.mk (Str.ofString "decode_annotated") (Str.ofString "decode_annotated") (hd.args (hd.top 29)) (.stmts (hd.body (hd.top 29))) (hd.scope (hd.top 29)) 3 [] (Value.ref 183) Value.none Value.none (Value.str (Str.ofString "unicore.punycode") 261) none (Value.ref 189) Value.none 0)) #[]) ::
  (nat_lit 191, Obj.mk (Value.type "tuple") none (Data.seq #[Value.none]) #[]) ::
  (nat_lit 192, Obj.mk (Value.type "tuple") none (Data.seq #[]) #[]) ::
  (nat_lit 194, Obj.mk (Value.type "tuple") none (Data.seq #[Value.str (Str.ofString "octets") 475, Value.str (Str.ofString "numbers") 476]) #[]) ::
  (nat_lit 195, Obj.mk (Value.type "tuple") none (Data.seq #[]) #[]) ::
  (nat_lit 197, Obj.mk (Value.type "code") none (Data.fields #[Value.str (Str.ofString "decode_label") 472, Value.str (Str.ofString "decode_label") 473, Value.str (Str.ofString "/claim/cut.py") 474, Value.int 158 0, Value.int 2 0, Value.int 0 0, Value.int 0 0, Value.int 3 0, Value.ref 192, Value.bool true, Value.int 181 0, Value.ref 193, Value.none, Value.ref 194, Value.ref 195, Value.ref 196, Value.int 477 0, Value.int 158 0, Value.str (Str.ofString "/claim/cut.py") 478]) #[]) ::
  (nat_lit 198, Obj.mk (Value.type "function") none (Data.func (FuncData.mk (Str.ofString "decode_label") (Str.ofString "decode_label") (hd.args (hd.top 30)) (.stmts (hd.body (hd.top 30))) (hd.scope (hd.top 30)) 3 [] (Value.ref 191) Value.none Value.none (Value.str (Str.ofString "unicore.punycode") 261) none (Value.ref 197) Value.none 0)) #[]) ::
  (nat_lit 199, Obj.mk (Value.type "tuple") none (Data.seq #[]) #[]) ::
  (nat_lit 202, Obj.mk (Value.type "code") none (Data.fields #[Value.str (Str.ofString "_law_deck") 482, Value.str (Str.ofString "_law_deck") 483, Value.str (Str.ofString "/claim/cut.py") 484, Value.int 161 0, Value.int 1 0, Value.int 0 0, Value.int 0 0, Value.int 3 0, Value.ref 199, Value.bool true, Value.int 181 0, Value.ref 200, Value.none, Value.none, Value.none, Value.ref 201, Value.int 485 0, Value.int 161 0, Value.str (Str.ofString "/claim/cut.py") 486]) #[]) ::
  (nat_lit 203, Obj.mk (Value.type "function") none (Data.func (FuncData.mk (Str.ofString "_law_deck") (Str.ofString "_law_deck") (hd.args (hd.top 32)) (.stmts (hd.body (hd.top 32))) (hd.scope (hd.top 32)) 3 [] Value.none Value.none Value.none (Value.str (Str.ofString "law_nt0011_01") 480) none (Value.ref 202) Value.none 0)) #[]) ::
  (nat_lit 204, Obj.mk (Value.type "tuple") none (Data.seq #[]) #[]) ::
  (nat_lit 206, Obj.mk (Value.type "tuple") none (Data.seq #[Value.str (Str.ofString "deck") 491, Value.str (Str.ofString "many") 492]) #[]) ::
  (nat_lit 207, Obj.mk (Value.type "tuple") none (Data.seq #[]) #[]) ::
  (nat_lit 209, Obj.mk (Value.type "code") none (Data.fields #[Value.str (Str.ofString "_law_draw") 488, Value.str (Str.ofString "_law_draw") 489, Value.str (Str.ofString "/claim/cut.py") 490, Value.int 166 0, Value.int 2 0, Value.int 0 0, Value.int 0 0, Value.int 3 0, Value.ref 204, Value.bool true, Value.int 181 0, Value.ref 205, Value.none, Value.ref 206, Value.ref 207, Value.ref 208, Value.int 493 0, Value.int 166 0, Value.str (Str.ofString "/claim/cut.py") 494]) #[]) ::
  (nat_lit 210, Obj.mk (Value.type "function") none (Data.func (FuncData.mk (Str.ofString "_law_draw") (Str.ofString "_law_draw") (hd.args (hd.top 33)) (.stmts (hd.body (hd.top 33))) (hd.scope (hd.top 33)) 3 [] Value.none Value.none Value.none (Value.str (Str.ofString "law_nt0011_01") 480) none (Value.ref 209) Value.none 0)) #[]) ::
  (nat_lit 211, Obj.mk (Value.type "tuple") none (Data.seq #[]) #[]) ::
  (nat_lit 213, Obj.mk (Value.type "tuple") none (Data.seq #[Value.str (Str.ofString "w") 499, Value.str (Str.ofString "delta") 500, Value.str (Str.ofString "many") 501, Value.str (Str.ofString "is_first") 502, Value.str (Str.ofString "rounds") 503]) #[]) ::
  (nat_lit 214, Obj.mk (Value.type "tuple") none (Data.seq #[]) #[]) ::
  (nat_lit 216, Obj.mk (Value.type "code") none (Data.fields #[Value.str (Str.ofString "_law_adapted") 496, Value.str (Str.ofString "_law_adapted") 497, Value.str (Str.ofString "/claim/cut.py") 498, Value.int 171 0, Value.int 4 0, Value.int 0 0, Value.int 0 0, Value.int 3 0, Value.ref 211, Value.bool true, Value.int 181 0, Value.ref 212, Value.none, Value.ref 213, Value.ref 214, Value.ref 215, Value.int 504 0, Value.int 171 0, Value.str (Str.ofString "/claim/cut.py") 505]) #[]) ::
  (nat_lit 217, Obj.mk (Value.type "function") none (Data.func (FuncData.mk (Str.ofString "_law_adapted") (Str.ofString "_law_adapted") (hd.args (hd.top 34)) (.stmts (hd.body (hd.top 34))) (hd.scope (hd.top 34)) 3 [] Value.none Value.none Value.none (Value.str (Str.ofString "law_nt0011_01") 480) none (Value.ref 216) Value.none 0)) #[]) ::
  (nat_lit 218, Obj.mk (Value.type "tuple") none (Data.seq #[]) #[]) ::
  (nat_lit 220, Obj.mk (Value.type "tuple") none (Data.seq #[Value.str (Str.ofString "w") 510, Value.str (Str.ofString "k") 511, Value.str (Str.ofString "bias") 512]) #[]) ::
  (nat_lit 221, Obj.mk (Value.type "tuple") none (Data.seq #[]) #[]) ::
  (nat_lit 223, Obj.mk (Value.type "code") none (Data.fields #[Value.str (Str.ofString "_law_threshold") 507, Value.str (Str.ofString "_law_threshold") 508, Value.str (Str.ofString "/claim/cut.py") 509, Value.int 177 0, Value.int 3 0, Value.int 0 0, Value.int 0 0, Value.int 3 0, Value.ref 218, Value.bool true, Value.int 181 0, Value.ref 219, Value.none, Value.ref 220, Value.ref 221, Value.ref 222, Value.int 513 0, Value.int 177 0, Value.str (Str.ofString "/claim/cut.py") 514]) #[]) ::
  (nat_lit 224, Obj.mk (Value.type "function") none (Data.func (FuncData.mk (Str.ofString "_law_threshold") (Str.ofString "_law_threshold") (hd.args (hd.top 35)) (.stmts (hd.body (hd.top 35))) (hd.scope (hd.top 35)) 3 [] Value.none Value.none Value.none (Value.str (Str.ofString "law_nt0011_01") 480) none (Value.ref 223) Value.none 0)) #[]) ::
  (nat_lit 225, Obj.mk (Value.type "tuple") none (Data.seq #[]) #[]) ::
  (nat_lit 228, Obj.mk (Value.type "code") none (Data.fields #[Value.str (Str.ofString "_law_written") 516, Value.str (Str.ofString "_law_written") 517, Value.str (Str.ofString "/claim/cut.py") 518, Value.int 179 0, Value.int 2 0, Value.int 0 0, Value.int 0 0, Value.int 3 0, Value.ref 225, Value.bool true, Value.int 181 0, Value.ref 226, Value.none, Value.none, Value.none, Value.ref 227, Value.int 519 0, Value.int 179 0, Value.str (Str.ofString "/claim/cut.py") 520]) #[]) ::
  (nat_lit 229, Obj.mk (Value.type "function") none (Data.func (FuncData.mk (Str.ofString "_law_written") (Str.ofString "_law_written") (hd.args (hd.top 36)) (.stmts (hd.body (hd.top 36))) (hd.scope (hd.top 36)) 3 [] Value.none Value.none Value.none (Value.str (Str.ofString "law_nt0011_01") 480) none (Value.ref 228) Value.none 0)) #[]) ::
  (nat_lit 230, Obj.mk (Value.type "tuple") none (Data.seq #[]) #[]) ::
  (nat_lit 232, Obj.mk (Value.type "tuple") none (Data.seq #[Value.str (Str.ofString "w") 525, Value.str (Str.ofString "sign") 526, Value.str (Str.ofString "worth") 527, Value.str (Str.ofString "first") 528, Value.str (Str.ofString "many") 529, Value.str (Str.ofString "least") 530]) #[]) ::
  (nat_lit 233, Obj.mk (Value.type "tuple") none (Data.seq #[]) #[]) ::
  (nat_lit 235, Obj.mk (Value.type "code") none (Data.fields #[Value.str (Str.ofString "_law_figure") 522, Value.str (Str.ofString "_law_figure") 523, Value.str (Str.ofString "/claim/cut.py") 524, Value.int 198 0, Value.int 2 0, Value.int 0 0, Value.int 0 0, Value.int 3 0, Value.ref 230, Value.bool true, Value.int 181 0, Value.ref 231, Value.none, Value.ref 232, Value.ref 233, Value.ref 234, Value.int 531 0, Value.int 198 0, Value.str (Str.ofString "/claim/cut.py") 532]) #[]) ::
  (nat_lit 236, Obj.mk (Value.type "function") none (Data.func (FuncData.mk (Str.ofString "_law_figure") (Str.ofString "_law_figure") (hd.args (hd.top 37)) (.stmts (hd.body (hd.top 37))) (hd.scope (hd.top 37)) 3 [] Value.none Value.none Value.none (Value.str (Str.ofString "law_nt0011_01") 480) none (Value.ref 235) Value.none 0)) #[]) ::
  (nat_lit 237, Obj.mk (Value.type "tuple") none (Data.seq #[]) #[]) ::
  (nat_lit 240, Obj.mk (Value.type "code") none (Data.fields #[Value.str (Str.ofString "_law_read") 534, Value.str (Str.ofString "_law_read") 535, Value.str (Str.ofString "/claim/cut.py") 536, Value.int 204 0, Value.int 2 0, Value.int 0 0, Value.int 0 0, Value.int 3 0, Value.ref 237, Value.bool true, Value.int 181 0, Value.ref 238, Value.none, Value.none, Value.none, Value.ref 239, Value.int 537 0, Value.int 204 0, Value.str (Str.ofString "/claim/cut.py") 538]) #[]) ::
  (nat_lit 241, Obj.mk (Value.type "function") none (Data.func (FuncData.mk (Str.ofString "_law_read") (Str.ofString "_law_read") (hd.args (hd.top 38)) (.stmts (hd.body (hd.top 38))) (hd.scope (hd.top 38)) 3 [] Value.none Value.none Value.none (Value.str (Str.ofString "law_nt0011_01") 480) none (Value.ref 240) Value.none 0)) #[]) ::
  (nat_lit 242, Obj.mk (Value.type "tuple") none (Data.seq #[]) #[]) ::
  (nat_lit 244, Obj.mk (Value.type "tuple") none (Data.seq #[Value.str (Str.ofString "octets") 543, Value.str (Str.ofString "numbers") 544, Value.str (Str.ofString "found") 545, Value.str (Str.ofString "e") 546]) #[]) ::
  (nat_lit 245, Obj.mk (Value.type "tuple") none (Data.seq #[]) #[]) ::
  (nat_lit 247, Obj.mk (Value.type "code") none (Data.fields #[Value.str (Str.ofString "_law_told") 540, Value.str (Str.ofString "_law_told") 541, Value.str (Str.ofString "/claim/cut.py") 542, Value.int 229 0, Value.int 2 0, Value.int 0 0, Value.int 0 0, Value.int 3 0, Value.ref 242, Value.bool true, Value.int 181 0, Value.ref 243, Value.none, Value.ref 244, Value.ref 245, Value.ref 246, Value.int 547 0, Value.int 229 0, Value.str (Str.ofString "/claim/cut.py") 548]) #[]) ::
  (nat_lit 248, Obj.mk (Value.type "function") none (Data.func (FuncData.mk (Str.ofString "_law_told") (Str.ofString "_law_told") (hd.args (hd.top 39)) (.stmts (hd.body (hd.top 39))) (hd.scope (hd.top 39)) 3 [] Value.none Value.none Value.none (Value.str (Str.ofString "law_nt0011_01") 480) none (Value.ref 247) Value.none 0)) #[]) ::
  (nat_lit 249, Obj.mk (Value.type "tuple") none (Data.seq #[]) #[]) ::
  (nat_lit 252, Obj.mk (Value.type "code") none (Data.fields #[Value.str (Str.ofString "law") 550, Value.str (Str.ofString "law") 551, Value.str (Str.ofString "/claim/cut.py") 552, Value.int 236 0, Value.int 1 0, Value.int 0 0, Value.int 0 0, Value.int 3 0, Value.ref 249, Value.bool true, Value.int 181 0, Value.ref 250, Value.none, Value.none, Value.none, Value.ref 251, Value.int 553 0, Value.int 236 0, Value.str (Str.ofString "/claim/cut.py") 554]) #[]) ::
  (nat_lit 253, Obj.mk (Value.type "function") none (Data.func (FuncData.mk (Str.ofString "law") (Str.ofString "law") (hd.args (hd.top 40)) (.stmts (hd.body (hd.top 40))) (hd.scope (hd.top 40)) 3 [] Value.none Value.none Value.none (Value.str (Str.ofString "law_nt0011_01") 480) none (Value.ref 252) Value.none 0)) #[]) :: []
noncomputable def hd.as_ : List Addr := [2, 3, 15, 22, 23, 25, 26, 28, 29, 30, 31, 32, 33, 36, 43, 44, 45, 48, 50, 51, 53, 54, 55, 57, 58, 60, 61, 62, 64, 65, 67, 68, 76, 77, 79, 80, 82, 83, 84, 86, 87, 89, 90, 91, 93, 94, 96, 97, 98, 99, 100, 101, 102, 105, 106, 108, 109, 111, 112, 113, 115, 116, 118, 119, 120, 121, 123, 124, 126, 127, 128, 130, 131, 133, 134, 135, 137, 138, 140, 141, 142, 144, 145, 147, 148, 149, 152, 153, 154, 156, 157, 159, 160, 161, 162, 164, 165, 167, 168, 169, 171, 172, 174, 175, 176, 178, 179, 181, 182, 183, 184, 186, 187, 189, 190, 191, 192, 194, 195, 197, 198, 199, 202, 203, 204, 206, 207, 209, 210, 211, 213, 214, 216, 217, 218, 220, 221, 223, 224, 225, 228, 229, 230, 232, 233, 235, 236, 237, 240, 241, 242, 244, 245, 247, 248, 249, 252, 253]
noncomputable def hd.view_39 : Program := { PG with main := { PG.main with body := [hd.top 1, hd.top 2, hd.top 3, hd.top 4, hd.top 5, hd.top 6, hd.top 7, hd.top 8, hd.top 10, hd.top 11, hd.top 12, hd.top 13, hd.top 14, hd.top 15, hd.top 16, hd.top 17, hd.top 19, hd.top 21, hd.top 22, hd.top 23, hd.top 24, hd.top 25, hd.top 27, hd.top 28, hd.top 32, hd.top 33, hd.top 34, hd.top 35, hd.top 36, hd.top 37, hd.top 38, hd.top 39, hd.top 40] } }
end Mine
namespace Mine
open PySem PySem.W PySem.Calls PySem.Spec PyProof.Rows
noncomputable abbrev hd.H : Hook := kHook hd.heap_39 hd.as_ (fun _ => by kernel_rfl)
noncomputable abbrev hd.loose : List PySem.Str := ["UniError", "puny_figure", "puny_number", "encode_label", "decode_annotated", "decode_label"]
theorem hd.of_boot {p q : Program} {loose : List PySem.Str} {Xt : Shared → Bool} {α : Type} {Yf : Shared → α} {Ya : World → α} {N : Nat} {g0 : Bool} (e : opening p = plainProg p.main.scope.names) (hN : Nat.ble 600 N = true) (f : ∀ s, fenceModules? p s = some s)
    (h : ∀ (w : World) (os : OsState), (topFrom treeTable p w N ⟨boot_heap w.params, #[], boot_drawn, boot_toks, os⟩).map (fun s => (openSeen q loose (importedModules p.main.body) Xt g0 s, Yf s)) = some (openGood q loose, Ya w)) : LeftO p q loose Xt Yf Ya N g0 := fun w => by
  obtain ⟨⟨a, b, c, d, os⟩, e1, e2⟩ := Option.map_eq_some_iff.mp (boot_open e hN f w)
  obtain ⟨rfl, rfl, rfl, rfl⟩ : a = boot_heap w.params ∧ b = #[] ∧ c = boot_drawn ∧ d = boot_toks := by simpa using e2
  unfold openEnds
  rw [e1]
  exact h w os
theorem hd.both {α β γ : Type} {o : Option α} {f : α → β} {g : α → γ} {b : β} {c : γ} (h : o.map f = some b) (k : o.map g = some c) : o.map (fun s => (f s, g s)) = some (b, c) := by
  cases o with
  | none => cases h
  | some s => exact congrArg some (Prod.ext (Option.some.inj h) (Option.some.inj k))
theorem hd.run1 : ∀ (w : World) (os : OsState), (topFrom treeTable PG w 3414 ⟨boot_heap w.params, #[], boot_drawn, boot_toks, os⟩).map (fun s => openSeen hd.view_39 hd.loose (importedModules PG.main.body) (fun s => xlAt hd.view_39 [] s && recOk (RowW.records PySem.Challenge.rw_nt0011_01.row.toRowW) s) true s) = some (openGood hd.view_39 hd.loose) := by
  unfold topFrom
  try rw [PySem.W.Fast.te14082659384304107361, PySem.W.Fast.te14364793385576792824, PySem.W.Fast.te4187177175401517315]
  intro w os
  kernel_rfl
theorem hd.run2 : ∀ (w : World) (os : OsState), (topFrom treeTable PG w 3414 ⟨boot_heap w.params, #[], boot_drawn, boot_toks, os⟩).map (fun s => Hook.obs hd.H s) = some (Hook.val hd.H w) := by
  unfold topFrom
  try rw [PySem.W.Fast.te14082659384304107361, PySem.W.Fast.te14364793385576792824]
  intro w os
  kernel_rfl
theorem hd.left : LeftO PG hd.view_39 hd.loose (fun s => xlAt hd.view_39 [] s && recOk (RowW.records PySem.Challenge.rw_nt0011_01.row.toRowW) s) (Hook.obs hd.H) (Hook.val hd.H) 3414 :=
  hd.of_boot (by kernel_rfl) (by kernel_rfl) (fun _ => by kernel_rfl) (fun w os => hd.both (hd.run1 w os) (hd.run2 w os))
theorem hd.said : OpenLaw.wellSaid PySem.Challenge.rw_nt0011_01 = true := by
  unfold OpenLaw.wellSaid OpenRow.wellSaid OpenRow.partSaid looksOpen
  repeat' (with_reducible refine look_both ?_ ?_)
  all_goals decide +kernel
end Mine
namespace Mine
open PySem PySem.W PySem.Calls PySem.Spec PyProof.Rows
section
inductive V where
  | none
  | bool (b : Bool)
  | int (i : Int)
  | str (s : PySem.Str)
  | bytes (xs : List Int)
  | ref (i : Nat)
  | gl (xs : List Int)
inductive O where
  | list (vs : List V)
  | tuple (vs : List V)
  | dict (es : List (PySem.Str × V))
  | inst (C : Nat) (d : Nat)
  | cell (v : Option V)
  | exc (C : Nat) (d : Nat)
  | map (es : List (PySem.Str × V))
structure St where
  loc : List (PySem.Str × V)
  H : List O
inductive Fl where
  | next | brk | cont
  | ret (v : V)

inductive All2 {α β : Type} (R : α → β → Prop) : List α → List β → Prop
  | nil : All2 R [] []
  | cons {a b as bs} : R a b → All2 R as bs → All2 R (a :: as) (b :: bs)
namespace All2
variable {α β : Type} {R S : α → β → Prop}
variable {as : List α} {bs : List β}
theorem length (h : All2 R as bs) : as.length = bs.length := by
  induction h with
  | nil => rfl
  | cons _ _ ih => exact congrArg (· + 1) ih
theorem mono (k : ∀ a b, R a b → S a b) (h : All2 R as bs) : All2 S as bs := by
  induction h with
  | nil => exact .nil
  | cons h _ ih => exact .cons (k _ _ h) ih
theorem append {as' : List α} {bs' : List β} (h : All2 R as bs) (h' : All2 R as' bs') : All2 R (as ++ as') (bs ++ bs') := by
  induction h with
  | nil => exact h'
  | cons h _ ih => exact .cons h ih
theorem get (h : All2 R as bs) : ∀ {i : Nat} {a : α}, as[i]? = some a → ∃ b, bs[i]? = some b ∧ R a b := by
  induction h with
  | nil => intro i a e; cases e
  | cons h _ ih =>
    intro i a e
    cases i with
    | zero => cases e; exact ⟨_, rfl, h⟩
    | succ i => exact ih e
theorem set (h : All2 R as bs) : ∀ {i : Nat} {a : α} {b : β}, R a b → All2 R (as.set i a) (bs.set i b) := by
  induction h with
  | nil => intro _ _ _ _; exact .nil
  | cons h t ih =>
    intro i a b r
    cases i with
    | zero => exact .cons r t
    | succ i => exact .cons h (ih r)
theorem take (h : All2 R as bs) : ∀ n, All2 R (as.take n) (bs.take n) := by
  induction h with
  | nil => intro n; cases n <;> exact .nil
  | cons h _ ih =>
    intro n
    cases n with
    | zero => exact .nil
    | succ n => exact .cons h (ih n)
theorem drop (h : All2 R as bs) : ∀ n, All2 R (as.drop n) (bs.drop n) := by
  induction h with
  | nil => intro n; cases n <;> exact .nil
  | cons h t ih =>
    intro n
    cases n with
    | zero => exact .cons h t
    | succ n => exact ih n
end All2

/-- what a value stands for, under the addresses ρ of the objects known and the ground B -/
noncomputable def Rv (B : Heap) (ρ : List Addr) : V → Value → Prop
  | .none, v => v = .none
  | .bool b, v => v = .bool b
  | .int i, v => ∃ t, v = .int i t
  | .str s, v => ∃ t, v = .str s t
  | .bytes xs, v => ∃ b t, v = .bytes b t ∧ b.toList.map (fun c => (c.toNat : Int)) = xs ∧ b.size ≤ 2 ^ 20
  | .ref i, v => ∃ a, ρ[i]? = some a ∧ v = .ref a
  | .gl xs, v => ∃ l vs, v = .ref l ∧ B.IsList l vs.toArray ∧ IntsAre vs xs
noncomputable def Re (w : World) (B : Heap) (ρ : List Addr) (p : PySem.Str × V) (e : DictEntry) : Prop := (∃ t, e.key = .str p.1 t) ∧ e.hash = PyData.keyHash w.params p.1 ∧ Rv B ρ p.2 e.val
noncomputable def ObjDict (w : World) (o : Obj) (kvs : List (PySem.Str × Value)) : Prop :=
  ∃ es ep, o.ExactDict ∧ o.data = .dict es ep ∧ PySem.KeysOf (strKind PG w) es ∧ Pairs (strKind PG w) es.toList kvs ∧ (kvs.map (·.1)).Nodup
noncomputable def Rk (B : Heap) (ρ : List Addr) (p : PySem.Str × V) (q : PySem.Str × Value) : Prop := p.1 = q.1 ∧ Rv B ρ p.2 q.2
noncomputable def Ro (w : World) (B : Heap) (ρ : List Addr) : O → Obj → Prop
  | .list vs, o => ∃ (l : List Value) (n : Nat), o = listOf l.toArray n ∧ All2 (Rv B ρ) vs l ∧ vs.length ≤ 2 ^ 20
  | .tuple vs, o => ∃ (l : List Value) (n : Nat), o = { cls := .type "tuple", data := .seq l.toArray n } ∧ All2 (Rv B ρ) vs l
  | .dict es, o => ∃ (l : List DictEntry) (n : Nat), o = dictOf l n ∧ All2 (Re w B ρ) es l
  | .inst C j, o => ∃ d, ρ[j]? = some d ∧ o = instObj C d
  | .cell v, o => ∃ u, o.data = .cell u ∧ o.isFreed = false ∧ (match v with | some x => ∃ y, u = some y ∧ Rv B ρ x y | none => True)
  | .exc C j, o => ∃ d vs, ρ[j]? = some d ∧ o.cls = .ref C ∧ o.dict = some d ∧ o.data = .fields vs
  | .map es, o => ∃ kvs, ObjDict w o kvs ∧ All2 (Rk B ρ) es kvs ∧ es.length ≤ 1000

theorem Rv.mono {B : Heap} {ρ ρ' : List Addr} (k : ρ <+: ρ') : ∀ {x : V} {v : Value}, Rv B ρ x v → Rv B ρ' x v := by
  intro x v h
  cases x <;> try exact h
  obtain ⟨a, ha, e⟩ := h
  refine ⟨a, ?_, e⟩
  obtain ⟨r, rfl⟩ := k
  rw [List.getElem?_append_left (List.getElem?_eq_some_iff.mp ha).1]; exact ha
theorem pre_get {ρ ρ' : List Addr} (k : ρ <+: ρ') {i : Nat} {a : Addr} (e : ρ[i]? = some a) : ρ'[i]? = some a := by
  obtain ⟨r, rfl⟩ := k
  rw [List.getElem?_append_left (List.getElem?_eq_some_iff.mp e).1]; exact e
theorem Re.mono {w : World} {B : Heap} {ρ ρ' : List Addr} (k : ρ <+: ρ') {p : PySem.Str × V} {e : DictEntry} (h : Re w B ρ p e) : Re w B ρ' p e := ⟨h.1, h.2.1, h.2.2.mono k⟩
theorem Ro.mono {w : World} {B : Heap} {ρ ρ' : List Addr} (k : ρ <+: ρ') : ∀ {x : O} {o : Obj}, Ro w B ρ x o → Ro w B ρ' x o := by
  intro x o h
  cases x with
  | list _ => obtain ⟨l, n, e, h, z⟩ := h; exact ⟨l, n, e, h.mono fun _ _ => Rv.mono k, z⟩
  | tuple _ => obtain ⟨l, n, e, h⟩ := h; exact ⟨l, n, e, h.mono fun _ _ => Rv.mono k⟩
  | dict _ => obtain ⟨l, n, e, h⟩ := h; exact ⟨l, n, e, h.mono fun _ _ => Re.mono k⟩
  | inst _ _ => obtain ⟨d, h, e⟩ := h; exact ⟨d, pre_get k h, e⟩
  | cell v =>
    cases v with
    | none => exact h
    | some x => obtain ⟨u, h, f, y, e, r⟩ := h; exact ⟨u, h, f, y, e, r.mono k⟩
  | exc _ _ => obtain ⟨d, vs, h, e⟩ := h; exact ⟨d, vs, pre_get k h, e⟩
  | map _ => obtain ⟨kvs, h, e, z⟩ := h; exact ⟨kvs, h, e.mono fun _ _ q => ⟨q.1, q.2.mono k⟩, z⟩

noncomputable def NsObj (m : PySem.Str → Option Value) (o : Obj) : Prop := ∃ es ep, o.data = .dict es ep ∧ StrKeys es ∧ ∀ name, nsFind es name = m name

/-- what is written of a frame: its names' kinds, its cells, how deep it may call -/
structure Sx where
  sc : Scope
  cells : List (PySem.Str × Nat)
  d : Nat
  hx : Bool
  fn : Bool

structure Fx where
  x : Sx
  w : World
  mg : PySem.Str → Option Value
  mb : PySem.Str → Option Value
  mean : ExcName → Option Value
  p : Program
  loose : List PySem.Str
  s₀ : Shared
  A : Around
  base : Heap
  ev : Env
  fenv : Env
  outer : List Env
  L : Addr
  os : List (Addr × (PySem.Str → Option Value))
  kp : List (Addr × Obj)
noncomputable def Fx.st (f : Fx) (h : Heap) (t : Nat) : Shared := { f.s₀ with heap := h, toks := t }

structure Fx.Ok (f : Fx) : Prop where
  ki : (hd.heap_39 f.w.params).In f.base
  top : Top f.p f.loose f.mean f.mg f.mb f.base
  kind : f.ev.scope.kind = .function
  sc : f.ev.scope = f.x.sc
  loc : f.ev.locals = f.L
  glob : f.ev.globals = mainGlobals
  blt : f.ev.builtins = builtinsNs
  frm : f.ev.frame = f.fenv.frame
  fr : f.A.frames = some (f.fenv :: f.outer)
  hand : f.x.hx = false → f.A.handled = Option.none
  guards : f.A.guards = some []
  frs : ∀ env ∈ f.fenv :: f.outer, env.scope.kind ≠ .module ∧ ∃ L', env.frame = some L' ∧ (L' = f.L ∨ L' ∈ f.os.map (·.1))
  fe : f.x.fn = true → f.fenv = f.ev ∧ f.ev.frame = some f.L
  depth : f.A.depth + f.x.d < recursionLimit
  units : f.A.units + 16 * f.x.d + 64 < cLine

structure RelW (f : Fx) (ρ : List Addr) (σ : St) (h : Heap) (m : PySem.Str → Option Value) (objs fo : List Obj) : Prop where
  ok : f.Ok
  fr : Fr f.base f.L h m
  loc : ∀ x V, σ.loc.lookup x = some V → ∃ v, m x = some v ∧ Rv f.base ρ V v
  news : News f.base f.L h ((f.os.map (·.1)).zip fo ++ (f.kp ++ ρ.zip objs))
  ns : All2 NsObj (f.os.map (·.2)) fo
  obj : All2 (Ro f.w f.base ρ) σ.H objs
  len : ρ.length = objs.length
  nd : (f.os.map (·.1) ++ (f.kp.map (·.1) ++ ρ)).Nodup
  cells : ∀ x i, f.x.cells.lookup x = some i → ∃ c, f.ev.cells.lookup x = some c ∧ ρ[i]? = some c
inductive Rel (f : Fx) (ρ : List Addr) (σ : St) (h : Heap) : Prop
  | mk (m : PySem.Str → Option Value) (objs fo : List Obj) (W : RelW f ρ σ h m objs fo)

noncomputable def tracked (f : Fx) (ρ : List Addr) : List Addr := f.L :: (f.os.map (·.1) ++ (f.kp.map (·.1) ++ ρ))
/-- an exception object e of the class BadLabel in flight; its dict is the object j -/
structure ExcAt (f : Fx) (ρ : List Addr) (j : Nat) (e : Addr) (h : Heap) : Prop where
  new : f.base.get? e = none
  apart : e ∉ tracked f ρ
  here : ∃ oe vs t d, h.get? e = some oe ∧ oe.cls = .ref 45 ∧ oe.dict = some d ∧ ρ[j]? = some d ∧ oe.data = .fields vs ∧ vs[0]? = some (.ref t) ∧
    (vs[1]? = some .none ∨ ∃ T oT ts, vs[1]? = some (.ref T) ∧ T ∉ tracked f ρ ∧ f.base.get? T = none ∧ T ≠ e ∧ h.get? T = some oT ∧ oT.data = .fields ts ∧ ts[3]? = some .none)

noncomputable def EP (f : Fx) (ρ : List Addr) (E : Nat → St → Prop) (Ec : Value → Shared → Prop) : Prop :=
  PassesOwn (model PG f.w) f.A f.ev Ec ∧ ∀ j σ' ρ' h' t' e, E j σ' → ρ <+: ρ' → Rel f ρ' σ' h' → ExcAt f ρ' j e h' → Ec (.ref e) (f.st h' t')
theorem EP.mono {f : Fx} {ρ ρ' : List Addr} {E : Nat → St → Prop} {Ec : Value → Shared → Prop} (x : EP f ρ E Ec) (k : ρ <+: ρ') : EP f ρ' E Ec :=
  ⟨x.1, fun j σ' ρ₂ h' t' e a b c d => x.2 j σ' ρ₂ h' t' e a (k.trans b) c d⟩

noncomputable def Run {α β : Type} (f : Fx) (rv : Heap → List Addr → β → α → Prop) (E : Nat → St → Prop) (ρ : List Addr) (σ : St) (t : Sem α) (Q : β → St → Prop) : Prop :=
  ∀ h tk, Rel f ρ σ h → ∀ (Qc : α → Shared → Prop) (Ec : Value → Shared → Prop),
    (∀ b a σ' ρ' h' t', Q b σ' → ρ <+: ρ' → Rel f ρ' σ' h' → rv f.base ρ' b a → Qc a (f.st h' t')) → EP f ρ E Ec → wpAny (model PG f.w) f.A t Qc Ec (f.st h tk)

section
variable {α β γ δ : Type} {f : Fx} {rv : Heap → List Addr → β → α → Prop} {rv' : Heap → List Addr → δ → γ → Prop} {E : Nat → St → Prop} {ρ : List Addr} {σ : St}
theorem Run.bind {t : Sem α} {k : α → Sem γ} {Q₁ : β → St → Prop} {Q : δ → St → Prop} (x : Run f rv E ρ σ t Q₁)
    (y : ∀ b a σ' ρ', Q₁ b σ' → ρ <+: ρ' → rv f.base ρ' b a → Run f rv' E ρ' σ' (k a) Q) : Run f rv' E ρ σ (t >>= k) Q := by
  intro h tk R Qc Ec hq he
  refine wpAny_bind (x h tk R _ Ec ?_ he)
  intro b a σ' ρ' h' t' q k' R' r
  exact y b a σ' ρ' q k' r h' t' R' Qc Ec (fun b₂ a₂ σ₂ ρ₂ h₂ t₂ q₂ k₂ R₂ r₂ => hq b₂ a₂ σ₂ ρ₂ h₂ t₂ q₂ (k'.trans k₂) R₂ r₂) (he.mono k')
theorem Run.mono {t : Sem α} {Q Q' : β → St → Prop} (x : Run f rv E ρ σ t Q) (k : ∀ b σ', Q b σ' → Q' b σ') : Run f rv E ρ σ t Q' :=
  fun h tk R Qc Ec hq he => x h tk R Qc Ec (fun b a σ' ρ' h' t' q => hq b a σ' ρ' h' t' (k _ _ q)) he
theorem Run.monoE {t : Sem α} {E' : Nat → St → Prop} {Q : β → St → Prop} (x : Run f rv E ρ σ t Q) (k : ∀ j σ', E j σ' → E' j σ') : Run f rv E' ρ σ t Q :=
  fun h tk R Qc Ec hq he => x h tk R Qc Ec hq ⟨he.1, fun j σ' ρ' h' t' e a => he.2 j σ' ρ' h' t' e (k _ _ a)⟩
theorem Run.pure {a : α} {b : β} {Q : β → St → Prop} (r : rv f.base ρ b a) (q : Q b σ) : Run f rv E ρ σ (Pure.pure a) Q :=
  fun h tk R _ _ hq _ => wpAny_pure (hq b a σ ρ h tk q (List.prefix_refl _) R r)
theorem Run.holding {vs : List Value} {t : Sem α} {Q : β → St → Prop} (x : Run f rv E ρ σ t Q) : Run f rv E ρ σ (PySem.holding vs t) Q :=
  fun h tk R Qc Ec hq he => wpAny_holding (x h tk R Qc Ec hq he)
theorem Run.standAt {p : Pos} {k : Unit → Sem α} {Q : β → St → Prop} (x : Run f rv E ρ σ (k ()) Q) : Run f rv E ρ σ (PySem.standAt p >>= k) Q :=
  fun h tk R Qc Ec hq he => wpAny_bind (wpAny_standAt (x h tk R Qc Ec hq he))
theorem Run.release {vs ks : List Value} {k : Unit → Sem α} {Q : β → St → Prop} (x : Run f rv E ρ σ (k ()) Q) : Run f rv E ρ σ (PySem.release vs ks >>= k) Q :=
  fun h tk R Qc Ec hq he => wpAny_bind (fun Γ p hΓ => by rw [Sem.wp_release]; exact x h tk R Qc Ec hq he)
theorem Run.operate {vs : List Value} {t : Sem Value} {rv : Heap → List Addr → β → Value → Prop} {Q : β → St → Prop} (x : Run f rv E ρ σ t Q) : Run f rv E ρ σ (PySem.operate vs t) Q :=
  fun h tk R Qc Ec hq he Γ p hΓ => by rw [Sem.wp_operate]; exact x h tk R Qc Ec hq he Γ p hΓ
end

/-- an expression, from σ, gives some V with Q V σ' -/
noncomputable def TE (x : Sx) (E : Nat → St → Prop) (σ : St) (e : Expr) (Q : V → St → Prop) : Prop := ∀ f ρ, f.x = x → Run f Rv E ρ σ (eval e f.ev) Q
noncomputable def Rb (_ : Heap) (_ : List Addr) (b : Bool) (a : Bool) : Prop := a = b
noncomputable def TB (x : Sx) (E : Nat → St → Prop) (σ : St) (e : Expr) (Q : Bool → St → Prop) : Prop := ∀ f ρ, f.x = x → Run f Rb E ρ σ (isTrue e f.ev (eval e f.ev)) Q
noncomputable def Rf (B : Heap) (ρ : List Addr) : Fl → Flow → Prop
  | .next, g => g = .next
  | .brk, g => g = .brk
  | .cont, g => g = .cont
  | .ret x, g => ∃ v, g = .ret v ∧ Rv B ρ x v
noncomputable def TS (x : Sx) (E : Nat → St → Prop) (σ : St) (s : Stmt) (Q : Fl → St → Prop) : Prop := ∀ f ρ, f.x = x → Run f Rf E ρ σ (exec s f.ev) Q
noncomputable def TSs (x : Sx) (E : Nat → St → Prop) (σ : St) (s : List Stmt) (Q : Fl → St → Prop) : Prop := ∀ f ρ, f.x = x → Run f Rf E ρ σ (execs s f.ev) Q
noncomputable def Rvs (B : Heap) (ρ : List Addr) (xs : List V) (vs : List Value) : Prop := All2 (Rv B ρ) xs vs
noncomputable def TA (x : Sx) (E : Nat → St → Prop) (σ : St) (es : List Expr) (Q : List V → St → Prop) : Prop := ∀ f ρ pos, f.x = x → Run f Rvs E ρ σ (spliced (backTo pos (starEach es f.ev))) Q

theorem TE.mono {x E σ e} {Q Q' : V → St → Prop} (h : TE x E σ e Q) (k : ∀ v σ', Q v σ' → Q' v σ') : TE x E σ e Q' := fun f ρ e => (h f ρ e).mono k
theorem TS.mono {x E σ e} {Q Q' : Fl → St → Prop} (h : TS x E σ e Q) (k : ∀ v σ', Q v σ' → Q' v σ') : TS x E σ e Q' := fun f ρ e => (h f ρ e).mono k

section
variable {x : Sx} {E : Nat → St → Prop} {σ : St}
theorem TSs.nil {Q : Fl → St → Prop} (h : Q .next σ) : TSs x E σ [] Q := fun _ _ _ => Run.pure (b := Fl.next) rfl h
theorem TSs.cons {s : Stmt} {r : List Stmt} {Q : Fl → St → Prop} (h : TS x E σ s (fun fl σ' => match fl with | .next => TSs x E σ' r Q | fl => Q fl σ')) : TSs x E σ (s :: r) Q := fun f ρ e => by
  rw [execs_cons]
  refine (h f ρ e).bind fun b a σ' ρ' q _ r => ?_
  cases b with
  | next => cases r; exact q f ρ' e
  | brk => cases r; exact Run.pure (b := Fl.brk) rfl q
  | cont => cases r; exact Run.pure (b := Fl.cont) rfl q
  | ret v => obtain ⟨v', rfl, r⟩ := r; exact Run.pure (b := Fl.ret v) ⟨v', rfl, r⟩ q
theorem TE.int {i : Int} {k p} {Q : V → St → Prop} (h : Q (.int i) σ) : TE x E σ (.Constant (.int i) k p) Q := fun _ ρ _ h' tk R _ _ hq _ =>
  wpAny_Constant_int (hq _ _ _ ρ h' (tk + 1) h (List.prefix_refl _) R ⟨_, rfl⟩)
theorem TE.none {k p} {Q : V → St → Prop} (h : Q .none σ) : TE x E σ (.Constant .none k p) Q := fun _ _ _ => Run.pure (b := V.none) rfl h
theorem TE.bool {b k p} {Q : V → St → Prop} (h : Q (.bool b) σ) : TE x E σ (.Constant (.bool b) k p) Q := fun _ _ _ => Run.pure (b := V.bool b) rfl h
theorem TE.str {s : PySem.Str} {k p} {Q : V → St → Prop} (h : Q (.str s) σ) : TE x E σ (.Constant (.str s) k p) Q := fun _ ρ _ h' tk R _ _ hq _ =>
  Calls.Constant_str (hq _ _ _ ρ h' (tk + 1) h (List.prefix_refl _) R ⟨_, rfl⟩)
theorem TE.bytes {b : List UInt8} {k p} {Q : V → St → Prop} (h : Q (.bytes (b.map fun c => (c.toNat : Int))) σ) (hz : b.length ≤ 2 ^ 20) : TE x E σ (.Constant (.bytes b) k p) Q := fun _ ρ _ h' tk R _ _ hq _ => by
  show wpAny _ _ (mkTextBytes b.toArray) _ _ _
  unfold mkTextBytes
  exact wpAny_bind (wpAny_fresh (wpAny_pure (hq _ _ _ ρ h' (tk + 1) h (List.prefix_refl _) R ⟨_, _, rfl, by simp, by simpa using hz⟩)))

theorem TE.loc {n : PySem.Str} {p} {v : V} {Q : V → St → Prop} (hk : x.sc.names.lookup n = some .local) (hv : σ.loc.lookup n = some v) (h : Q v σ)
    (hd : (n == ("__debug__" : PySem.Str)) = false) : TE x E σ (.Name n p) Q := fun f ρ e h' tk R _ _ hq _ => by
  obtain ⟨m, objs, fo, W⟩ := id R
  obtain ⟨u, hu, r⟩ := W.loc n v hv
  refine wpAny_Name (wpAny_loadName_local (m := m) W.ok.kind ?_ ?_ hu (hq v u σ ρ h' tk h (List.prefix_refl _) R r)) hd
  · show f.ev.scope.names.lookup n = _
    rw [W.ok.sc, e]; exact hk
  · rw [W.ok.loc]; exact W.fr.ns
theorem TE.cell {n : PySem.Str} {p} {i : Nat} {v : V} {Q : V → St → Prop} (hk : x.sc.names.lookup n = some .cell) (hc : x.cells.lookup n = some i) (hv : σ.H[i]? = some (.cell (some v))) (h : Q v σ)
    (hd : (n == ("__debug__" : PySem.Str)) = false) : TE x E σ (.Name n p) Q := fun f ρ e h' tk R _ _ hq _ => by
  obtain ⟨m, objs, fo, W⟩ := id R
  obtain ⟨c, hc', hr⟩ := W.cells n i (by rw [e]; exact hc)
  obtain ⟨o, ho, ⟨u, hd', _, y, hy, ry⟩⟩ := W.obj.get hv
  subst hy
  refine wpAny_Name (wpAny_loadName_cell W.ok.kind ?_ hc' ⟨o, ?_, hd'⟩ (hq v y σ ρ h' tk h (List.prefix_refl _) R ry)) hd
  · show f.ev.scope.names.lookup n = _
    rw [W.ok.sc, e]; exact hk
  · refine (W.news (c, o) (List.mem_append_right _ (List.mem_append_right _ ?_))).1
    refine List.mem_of_getElem? (i := i) ?_
    rw [List.getElem?_zip_eq_some]; exact ⟨hr, ho⟩
end

section
variable {f : Fx} {ρ : List Addr} {σ : St} {h h' : Heap}
theorem zip_mem {α β : Type} {as : List α} {bs : List β} {i : Nat} {a : α} {b : β} (ha : as[i]? = some a) (hb : bs[i]? = some b) : (a, b) ∈ as.zip bs := by
  refine List.mem_of_getElem? (i := i) ?_
  rw [List.getElem?_zip_eq_some]; exact ⟨ha, hb⟩
theorem zip_mem' {α β : Type} {as : List α} {bs : List β} {p : α × β} (hp : p ∈ as.zip bs) : ∃ i : Nat, as[i]? = some p.1 ∧ bs[i]? = some p.2 := by
  obtain ⟨i, hi⟩ := List.mem_iff_getElem?.mp hp
  rw [List.getElem?_zip_eq_some] at hi
  exact ⟨i, hi⟩
namespace RelW
variable {m : PySem.Str → Option Value} {objs fo : List Obj}
inductive AtObj (f : Fx) (ρ : List Addr) (h : Heap) (objs : List Obj) (i : Nat) (x : O) : Prop
  | mk (a : Addr) (o : Obj) (h1 : ρ[i]? = some a) (h2 : objs[i]? = some o) (h3 : h.get? a = some o) (h4 : a ≠ f.L) (h5 : f.base.get? a = none) (h6 : Ro f.w f.base ρ x o)
theorem atObj (W : RelW f ρ σ h m objs fo) {i : Nat} {x : O} (e : σ.H[i]? = some x) : AtObj f ρ h objs i x := by
  obtain ⟨o, ho, r⟩ := W.obj.get e
  have hi : i < ρ.length := by rw [W.len]; exact (List.getElem?_eq_some_iff.mp ho).1
  have ha : ρ[i]? = some ρ[i] := List.getElem?_eq_getElem hi
  have n := W.news _ (List.mem_append_right _ (List.mem_append_right _ (zip_mem ha ho)))
  exact ⟨_, o, ha, ho, n.1, n.2.1, n.2.2, r⟩
theorem lenH (W : RelW f ρ σ h m objs fo) : ρ.length = σ.H.length := W.len.trans W.obj.length.symm
theorem lt_of_mem (W : RelW f ρ σ h m objs fo) {a : Addr} (ha : a ∈ f.os.map (·.1) ++ (f.kp.map (·.1) ++ ρ)) : a < h.objs.size := by
  rcases List.mem_append.mp ha with q | q
  · obtain ⟨i, hi⟩ := List.mem_iff_getElem?.mp q
    have hl : i < fo.length := by
      have := W.ns.length
      simp at this
      rw [← this]
      have := (List.getElem?_eq_some_iff.mp hi).1
      simpa using this
    exact Heap.lt_size (W.news _ (List.mem_append_left _ (zip_mem hi (List.getElem?_eq_getElem hl)))).1
  · rcases List.mem_append.mp q with q | q
    · obtain ⟨p, hp, rfl⟩ := List.mem_map.mp q
      exact Heap.lt_size (W.news _ (List.mem_append_right _ (List.mem_append_left _ hp))).1
    · obtain ⟨i, hi⟩ := List.mem_iff_getElem?.mp q
      have hl : i < objs.length := by rw [← W.len]; exact (List.getElem?_eq_some_iff.mp hi).1
      exact Heap.lt_size (W.news _ (List.mem_append_right _ (List.mem_append_right _ (zip_mem hi (List.getElem?_eq_getElem hl))))).1
theorem keeps (W : RelW f ρ σ h m objs fo) (k : ∀ b o, h.get? b = some o → h'.get? b = some o) : RelW f ρ σ h' m objs fo :=
  { W with fr := W.fr.keeps k, news := fun p hp => ⟨k _ _ (W.news p hp).1, (W.news p hp).2⟩ }
theorem alloc (W : RelW f ρ σ h m objs fo) (k : ∀ b o, h.get? b = some o → h'.get? b = some o) {a : Addr} {o : Obj} {x : O} (ha : h.objs.size ≤ a) (hn : h'.get? a = some o) (r : Ro f.w f.base ρ x o) :
    RelW f (ρ ++ [a]) ⟨σ.loc, σ.H ++ [x]⟩ h' m (objs ++ [o]) fo := by
  have hpre : ρ <+: ρ ++ [a] := ⟨[a], rfl⟩
  have hbase : f.base.get? a = none := by
    cases q : f.base.get? a with
    | none => rfl
    | some o' => exact absurd (Heap.lt_size (W.fr.keep _ _ q)) (Nat.not_lt.mpr ha)
  refine ⟨W.ok, W.fr.keeps k, fun y V e => ?_, fun p hp => ?_, W.ns, (W.obj.mono fun _ _ => Ro.mono hpre).append (.cons (r.mono hpre) .nil), by simp [W.len], ?_, fun y i e => ?_⟩
  · obtain ⟨v, hv, rv⟩ := W.loc y V e
    exact ⟨v, hv, rv.mono hpre⟩
  · rw [List.zip_append W.len] at hp
    rcases List.mem_append.mp hp with q | q
    · exact ⟨k _ _ (W.news p (List.mem_append_left _ q)).1, (W.news p (List.mem_append_left _ q)).2⟩
    · rcases List.mem_append.mp q with q | q
      · have z := W.news p (List.mem_append_right _ (List.mem_append_left _ q))
        exact ⟨k _ _ z.1, z.2⟩
      · rcases List.mem_append.mp q with q | q
        · have z := W.news p (List.mem_append_right _ (List.mem_append_right _ q))
          exact ⟨k _ _ z.1, z.2⟩
        · simp at q
          subst q
          exact ⟨hn, fun z => absurd (W.fr.ns.lt) (Nat.not_lt.mpr (z ▸ ha)), hbase⟩
  · have hnew : a ∉ f.os.map (·.1) ++ (f.kp.map (·.1) ++ ρ) := fun z => absurd (W.lt_of_mem z) (Nat.not_lt.mpr ha)
    have e : f.os.map (·.1) ++ (f.kp.map (·.1) ++ (ρ ++ [a])) = (f.os.map (·.1) ++ (f.kp.map (·.1) ++ ρ)) ++ [a] := by simp
    rw [e, List.nodup_append]
    refine ⟨W.nd, by simp, ?_⟩
    intro b hb c hc z
    rw [List.mem_singleton] at hc
    exact hnew (hc ▸ z ▸ hb)
  · obtain ⟨c, h1, h2⟩ := W.cells y i e
    exact ⟨c, h1, pre_get hpre h2⟩
theorem nodup_get (W : RelW f ρ σ h m objs fo) {i j : Nat} {a : Addr} (hi : ρ[i]? = some a) (hj : ρ[j]? = some a) : i = j := by
  have nd : ρ.Nodup := (List.nodup_append.mp (List.nodup_append.mp W.nd).2.1).2.1
  have h1 := (List.getElem?_eq_some_iff.mp hi)
  have h2 := (List.getElem?_eq_some_iff.mp hj)
  obtain ⟨l1, e1⟩ := h1
  obtain ⟨l2, e2⟩ := h2
  exact (List.getElem_inj nd).mp (e1.trans e2.symm)
theorem update (W : RelW f ρ σ h m objs fo) {i : Nat} {a : Addr} {o : Obj} {x : O} (hi : ρ[i]? = some a) (hs : Heap.SameBut a h h') (hn : h'.get? a = some o) (r : Ro f.w f.base ρ x o) :
    RelW f ρ ⟨σ.loc, σ.H.set i x⟩ h' m (objs.set i o) fo := by
  have hil : i < objs.length := by rw [← W.len]; exact (List.getElem?_eq_some_iff.mp hi).1
  have old := W.news _ (List.mem_append_right _ (List.mem_append_right _ (zip_mem hi (List.getElem?_eq_getElem hil))))
  have nd1 := (List.nodup_append.mp W.nd)
  have nd2 := (List.nodup_append.mp nd1.2.1)
  have ham : a ∈ ρ := List.mem_of_getElem? hi
  refine ⟨W.ok, W.fr.change hs old.2.1 old.2.2, W.loc, fun p hp => ?_, W.ns, W.obj.set r, by simp [W.len], W.nd, W.cells⟩
  rcases List.mem_append.mp hp with q | q
  · have z := W.news p (List.mem_append_left _ q)
    refine ⟨(hs.2 _ fun e => ?_).trans z.1, z.2⟩
    exact nd1.2.2 a (by rw [← e]; exact (List.of_mem_zip q).1) a (List.mem_append_right _ ham) rfl
  · rcases List.mem_append.mp q with q | q
    · have z := W.news p (List.mem_append_right _ (List.mem_append_left _ q))
      refine ⟨(hs.2 _ fun e => ?_).trans z.1, z.2⟩
      exact nd2.2.2 a (by rw [← e]; exact List.mem_map_of_mem q) a ham rfl
    · obtain ⟨j, h1, h2⟩ := zip_mem' q
      by_cases hij : j = i
      · subst hij
        rw [hi] at h1
        obtain rfl : a = p.1 := Option.some.inj h1
        rw [List.getElem?_set_self hil] at h2
        obtain rfl := Option.some.inj h2
        exact ⟨hn, old.2⟩
      · rw [List.getElem?_set_ne (Ne.symm hij)] at h2
        have z := W.news p (List.mem_append_right _ (List.mem_append_right _ (zip_mem h1 h2)))
        refine ⟨(hs.2 _ fun e => ?_).trans z.1, z.2⟩
        rw [e] at h1
        exact hij (W.nodup_get h1 hi)
theorem store (W : RelW f ρ σ h m objs fo) {n : PySem.Str} {V : V} {v : Value} (hns : h'.Ns f.L (fun y => if y = n then some v else m y)) (hs : Heap.SameBut f.L h h') (r : Rv f.base ρ V v) :
    RelW f ρ ⟨(n, V) :: σ.loc, σ.H⟩ h' (fun y => if y = n then some v else m y) objs fo := by
  refine ⟨W.ok, W.fr.set hns hs, fun y U e => ?_, W.news.set hs, W.ns, W.obj, W.len, W.nd, W.cells⟩
  by_cases q : y = n
  · subst q
    simp only [List.lookup_cons, beq_self_eq_true] at e
    cases e
    exact ⟨v, if_pos rfl, r⟩
  · have q' : (y == n) = false := beq_eq_false_iff_ne.mpr q
    simp only [List.lookup_cons, q'] at e
    obtain ⟨u, hu, ru⟩ := W.loc y U e
    exact ⟨u, by rw [if_neg q]; exact hu, ru⟩
end RelW
theorem Rel.ok (R : Rel f ρ σ h) : f.Ok := let ⟨_, _, _, W⟩ := R; W.ok
theorem Rel.lenH (R : Rel f ρ σ h) : ρ.length = σ.H.length := let ⟨_, _, _, W⟩ := R; W.lenH
theorem Rel.stays (R : Rel f ρ σ h) : f.base.StaysIn h := let ⟨_, _, _, W⟩ := R; W.fr.keep
theorem Rel.keeps (R : Rel f ρ σ h) (k : ∀ b o, h.get? b = some o → h'.get? b = some o) : Rel f ρ σ h' := let ⟨m, o, fo, W⟩ := R; ⟨m, o, fo, W.keeps k⟩
theorem Rel.atObj (R : Rel f ρ σ h) {i : Nat} {x : O} (e : σ.H[i]? = some x) : ∃ a o, ρ[i]? = some a ∧ h.get? a = some o ∧ Ro f.w f.base ρ x o := by
  obtain ⟨m, ob, fo, W⟩ := R
  obtain ⟨a, o, h1, _, h3, _, _, r⟩ := W.atObj e
  exact ⟨a, o, h1, h3, r⟩
theorem Rel.alloc (R : Rel f ρ σ h) (k : ∀ b o, h.get? b = some o → h'.get? b = some o) {a : Addr} {o : Obj} {x : O} (ha : h.objs.size ≤ a) (hn : h'.get? a = some o) (r : Ro f.w f.base ρ x o) :
    Rel f (ρ ++ [a]) ⟨σ.loc, σ.H ++ [x]⟩ h' := let ⟨m, o, fo, W⟩ := R; ⟨m, _, fo, W.alloc k ha hn r⟩
theorem Rel.update (R : Rel f ρ σ h) {i : Nat} {a : Addr} {o : Obj} {x : O} (hi : ρ[i]? = some a) (hs : Heap.SameBut a h h') (hn : h'.get? a = some o) (r : Ro f.w f.base ρ x o) :
    Rel f ρ ⟨σ.loc, σ.H.set i x⟩ h' := let ⟨m, o, fo, W⟩ := R; ⟨m, _, fo, W.update hi hs hn r⟩
theorem Rel.new (R : Rel f ρ σ h) {o : Obj} {x : O} (r : Ro f.w f.base ρ x o) (hf : o.isFreed = false) : Rel f (ρ ++ [h.objs.size]) ⟨σ.loc, σ.H ++ [x]⟩ (h.push o) :=
  R.alloc (fun _ _ e => Heap.get?_push_of_some _ e) (Nat.le_refl _) (Heap.get?_push_size _ hf) r
theorem Rel.get_new (R : Rel f ρ σ h) (a : Addr) : (ρ ++ [a])[σ.H.length]? = some a := by
  rw [← R.lenH]; simp
end
end
section
noncomputable def Op2 (x : Sx) (E : Nat → St → Prop) (t : Value → Value → Sem Value) (a b : V) (σ : St) (Q : V → St → Prop) : Prop :=
  ∀ f ρ va vb, f.x = x → Rv f.base ρ a va → Rv f.base ρ b vb → Run f Rv E ρ σ (t va vb) Q
noncomputable def Truth (x : Sx) (E : Nat → St → Prop) (a : V) (σ : St) (Q : Bool → St → Prop) : Prop := ∀ f ρ va, f.x = x → Rv f.base ρ a va → Run f Rb E ρ σ (truthy va) Q

section
variable {x : Sx} {E : Nat → St → Prop} {σ : St}
theorem TE.binop {l op r p} {Q : V → St → Prop} (h : TE x E σ l fun a σ₁ => TE x E σ₁ r fun b σ₂ => Op2 x E (binaryOp op) a b σ₂ Q) : TE x E σ (.BinOp l op r p) Q := fun f ρ e => by
  rw [arm_eval_BinOp]
  exact (h f ρ e).bind fun a va σ₁ ρ₁ q₁ _ r₁ => Run.bind (Run.holding (q₁ f ρ₁ e)) fun b vb σ₂ ρ₂ q₂ k₂ r₂ => Run.standAt (Run.operate (q₂ f ρ₂ va vb e (r₁.mono k₂) r₂))
theorem Run.ofInt {f : Fx} {ρ : List Addr} {t : Sem Value} {i : Int} {Q : V → St → Prop} (q : Q (.int i) σ)
    (k : ∀ (s : Shared) (A : Around) (Qc : Value → Shared → Prop) (Ec : Value → Shared → Prop), Qc (.int i s.toks) { s with toks := s.toks + 1 } → wpAny (model PG f.w) A t Qc Ec s) : Run f Rv E ρ σ t Q :=
  fun h tk R Qc Ec hq _ => k _ _ _ _ (hq (.int i) _ σ ρ h (tk + 1) q (List.prefix_refl _) R ⟨_, rfl⟩)
theorem Run.ofBool {f : Fx} {ρ : List Addr} {t : Sem Value} {i : Bool} {Q : V → St → Prop} (q : Q (.bool i) σ)
    (k : ∀ (s : Shared) (A : Around) (Qc : Value → Shared → Prop) (Ec : Value → Shared → Prop), Qc (.bool i) s → wpAny (model PG f.w) A t Qc Ec s) : Run f Rv E ρ σ t Q :=
  fun h tk R Qc Ec hq _ => k _ _ _ _ (hq (.bool i) _ σ ρ h tk q (List.prefix_refl _) R rfl)

theorem Op2.add {i j : Int} {Q : V → St → Prop} (h : Q (.int (i + j)) σ) : Op2 x E (binaryOp .Add) (.int i) (.int j) σ Q := fun f ρ _ _ _ ⟨_, ea⟩ ⟨_, eb⟩ => by
  subst ea eb; exact Run.ofInt h fun s A Qc Ec q => PyProof.Rows.add_int q
theorem Op2.sub {i j : Int} {Q : V → St → Prop} (h : Q (.int (i - j)) σ) : Op2 x E (binaryOp .Sub) (.int i) (.int j) σ Q := fun f ρ _ _ _ ⟨_, ea⟩ ⟨_, eb⟩ => by
  subst ea eb; exact Run.ofInt h fun s A Qc Ec q => PyProof.Rows.sub_int' q
theorem Op2.mulL {i j : Int} {Q : V → St → Prop} (h1 : -(2 ^ 64) < i) (h2 : i < 2 ^ 64) (h : Q (.int (i * j)) σ) : Op2 x E (binaryOp .Mult) (.int i) (.int j) σ Q := fun f ρ _ _ _ ⟨_, ea⟩ ⟨_, eb⟩ => by
  subst ea eb; exact Run.ofInt h fun s A Qc Ec q => PyProof.Rows.mul_int q (IntMulOk.of_left (intBits_le_64 h1 h2))
theorem Op2.mulR {i j : Int} {Q : V → St → Prop} (h1 : -(2 ^ 64) < j) (h2 : j < 2 ^ 64) (h : Q (.int (i * j)) σ) : Op2 x E (binaryOp .Mult) (.int i) (.int j) σ Q := fun f ρ _ _ _ ⟨_, ea⟩ ⟨_, eb⟩ => by
  subst ea eb; exact Run.ofInt h fun s A Qc Ec q => PyProof.Rows.mul_int q (IntMulOk.of_right (intBits_le_64 h1 h2))
theorem Op2.div {i j : Int} {Q : V → St → Prop} (h1 : 0 < j) (h2 : j < 1073741824) (h : Q (.int (i / j)) σ) : Op2 x E (binaryOp .FloorDiv) (.int i) (.int j) σ Q := fun f ρ _ _ _ ⟨_, ea⟩ ⟨_, eb⟩ => by
  subst ea eb
  refine Run.ofInt h fun s A Qc Ec q => PyProof.Rows.floordiv_int (by (first | lia | omega)) ?_ (Or.inl (PyProof.noPylong_small (by (first | lia | omega))))
  rw [Int.fdiv_eq_ediv_of_nonneg i (Int.le_of_lt h1)]; exact q
theorem Op2.mod {i j : Int} {Q : V → St → Prop} (h1 : 0 < j) (h : Q (.int (i % j)) σ) : Op2 x E (binaryOp .Mod) (.int i) (.int j) σ Q := fun f ρ _ _ _ ⟨_, ea⟩ ⟨_, eb⟩ => by
  subst ea eb
  refine Run.ofInt h fun s A Qc Ec q => PyProof.Rows.mod_int' (by (first | lia | omega)) ?_
  rw [Int.fmod_eq_emod_of_nonneg i (Int.le_of_lt h1)]; exact q

theorem Op2.lt {i j : Int} {Q : V → St → Prop} (h : Q (.bool (decide (i < j))) σ) : Op2 x E (compareOp .Lt) (.int i) (.int j) σ Q := fun f ρ _ _ _ ⟨_, ea⟩ ⟨_, eb⟩ => by
  subst ea eb; exact Run.ofBool h fun s A Qc Ec q => PyProof.Rows.lt_int q
theorem Op2.le {i j : Int} {Q : V → St → Prop} (h : Q (.bool (decide (i ≤ j))) σ) : Op2 x E (compareOp .LtE) (.int i) (.int j) σ Q := fun f ρ _ _ _ ⟨_, ea⟩ ⟨_, eb⟩ => by
  subst ea eb; exact Run.ofBool h fun s A Qc Ec q => PyProof.Rows.le_int q
theorem Op2.gt {i j : Int} {Q : V → St → Prop} (h : Q (.bool (decide (j < i))) σ) : Op2 x E (compareOp .Gt) (.int i) (.int j) σ Q := fun f ρ _ _ _ ⟨_, ea⟩ ⟨_, eb⟩ => by
  subst ea eb; exact Run.ofBool h fun s A Qc Ec q => PyProof.Rows.gt_int q
theorem Op2.ge {i j : Int} {Q : V → St → Prop} (h : Q (.bool (decide (j ≤ i))) σ) : Op2 x E (compareOp .GtE) (.int i) (.int j) σ Q := fun f ρ _ _ _ ⟨_, ea⟩ ⟨_, eb⟩ => by
  subst ea eb; exact Run.ofBool h fun s A Qc Ec q => PyProof.Rows.ge_int q
theorem Op2.eq {i j : Int} {Q : V → St → Prop} (h : Q (.bool (decide (i = j))) σ) : Op2 x E (compareOp .Eq) (.int i) (.int j) σ Q := fun f ρ _ _ _ ⟨_, ea⟩ ⟨_, eb⟩ => by
  subst ea eb; exact Run.ofBool h fun s A Qc Ec q => PyProof.Rows.eq_int (by rw [show (i == j) = decide (i = j) from rfl]; exact q)
theorem Op2.ne {i j : Int} {Q : V → St → Prop} (h : Q (.bool (decide (i ≠ j))) σ) : Op2 x E (compareOp .NotEq) (.int i) (.int j) σ Q := fun f ρ _ _ _ ⟨_, ea⟩ ⟨_, eb⟩ => by
  subst ea eb; exact Run.ofBool h fun s A Qc Ec q => PyProof.Rows.ne_int (by rw [show (i != j) = decide (i ≠ j) from by by_cases z : i = j <;> simp [z]]; exact q)
theorem Op2.is_none {a : V} {Q : V → St → Prop} (h : Q (.bool (match a with | .none => true | _ => false)) σ) : Op2 x E (compareOp .Is) a .none σ Q := fun f ρ va _ _ ra eb => by
  subst eb
  refine Run.ofBool h fun s A Qc Ec q => wpAny_is_plain ?_ ?_
  · cases a <;> (simp only [Rv] at ra) <;> (try subst ra) <;> (try rfl) <;> (first | (obtain ⟨_, rfl⟩ := ra; rfl) | (obtain ⟨_, _, rfl, _⟩ := ra; rfl) | (obtain ⟨_, _, rfl⟩ := ra; rfl))
  · cases a <;> (simp only [Rv] at ra) <;> (try subst ra) <;> (try exact q) <;> (first | (obtain ⟨_, rfl⟩ := ra; exact q) | (obtain ⟨_, _, rfl, _⟩ := ra; exact q) | (obtain ⟨_, _, rfl⟩ := ra; exact q))
theorem Op2.isnot_none {a : V} {Q : V → St → Prop} (h : Q (.bool (match a with | .none => false | _ => true)) σ) : Op2 x E (compareOp .IsNot) a .none σ Q := fun f ρ va _ _ ra eb => by
  subst eb
  refine Run.ofBool h fun s A Qc Ec q => wpAny_isNot_plain ?_ ?_
  · cases a <;> (simp only [Rv] at ra) <;> (try subst ra) <;> (try rfl) <;> (first | (obtain ⟨_, rfl⟩ := ra; rfl) | (obtain ⟨_, _, rfl, _⟩ := ra; rfl) | (obtain ⟨_, _, rfl⟩ := ra; rfl))
  · cases a <;> (simp only [Rv] at ra) <;> (try subst ra) <;> (try exact q) <;> (first | (obtain ⟨_, rfl⟩ := ra; exact q) | (obtain ⟨_, _, rfl, _⟩ := ra; exact q) | (obtain ⟨_, _, rfl⟩ := ra; exact q))

theorem Truth.bool {b : Bool} {Q : Bool → St → Prop} (h : Q b σ) : Truth x E (.bool b) σ Q := fun f ρ _ _ ea h' tk R Qc Ec hq _ => by
  subst ea; exact wpAny_truthy_bool (hq b b σ ρ h' tk h (List.prefix_refl _) R rfl)

theorem TE.cmp {l op r p} {Q : V → St → Prop} (h : TE x E σ l fun a σ₁ => TE x E σ₁ r fun b σ₂ => Op2 x E (compareOp op) a b σ₂ Q) (hm : behindInMarks op r = false) : TE x E σ (.Compare l [op] [r] p) Q := fun f ρ e => by
  rw [eval_Compare1, markedBehindIn_of_false hm]
  exact (h f ρ e).bind fun a va σ₁ ρ₁ q₁ _ r₁ => Run.bind (Run.holding (q₁ f ρ₁ e)) fun b vb σ₂ ρ₂ q₂ k₂ r₂ => Run.standAt (Run.operate (q₂ f ρ₂ va vb e (r₁.mono k₂) r₂))
theorem TE.cmp2 {l op op' r r' p} {Q : V → St → Prop} (h : TE x E σ l fun a σ₁ => TE x E σ₁ r fun b σ₂ => Op2 x E (compareOp op) a b σ₂ fun c σ₃ => Truth x E c σ₃ fun t σ₄ =>
    if t then TE x E σ₄ r' fun d σ₅ => Op2 x E (compareOp op') b d σ₅ Q else Q c σ₄) (hm' : behindInMarks op' r' = false) : TE x E σ (.Compare l [op, op'] [r, r'] p) Q := fun f ρ e => by
  have e0 : eval (.Compare l [op, op'] [r, r'] p) f.ev = (do
      let a ← eval l f.ev
      let rv ← PySem.holding [a] (eval r f.ev)
      PySem.standAt p
      let c ← PySem.holding [a, rv] (compareOp op a rv)
      PySem.release [a, rv] [c]
      if ← PySem.holding [c, rv] (truthy c) then (do
        let rv' ← PySem.holding [rv] (markedBehindIn op' r' (eval r' f.ev))
        PySem.standAt p
        PySem.operate [rv, rv'] (compareOp op' rv rv')) else Pure.pure c) := rfl
  rw [e0, markedBehindIn_of_false hm']
  refine (h f ρ e).bind fun a va σ₁ ρ₁ q₁ _ r₁ => Run.bind (Run.holding (q₁ f ρ₁ e)) fun b vb σ₂ ρ₂ q₂ k₂ r₂ => Run.standAt ?_
  refine Run.bind (Run.holding (q₂ f ρ₂ va vb e (r₁.mono k₂) r₂)) fun c vc σ₃ ρ₃ q₃ k₃ r₃ => Run.release ?_
  refine Run.bind (Run.holding (q₃ f ρ₃ vc e r₃)) fun t ct σ₄ ρ₄ q₄ k₄ r₄ => ?_
  cases r₄
  cases t with
  | false => exact Run.pure (r₃.mono k₄) q₄
  | true =>
    refine Run.bind (Run.holding (q₄ f ρ₄ e)) fun d vd σ₅ ρ₅ q₅ k₅ r₅ => Run.standAt (Run.operate (q₅ f ρ₅ vb vd e (r₂.mono (k₃.trans (k₄.trans k₅))) r₅))
theorem TB.cmp {l op r p} {Q : Bool → St → Prop} (h : TE x E σ l fun a σ₁ => TE x E σ₁ r fun b σ₂ => Op2 x E (compareOp op) a b σ₂ fun c σ₃ => Truth x E c σ₃ Q) (hm : behindInMarks op r = false) : TB x E σ (.Compare l [op] [r] p) Q := fun f ρ e => by
  rw [isTrue_Compare1, markedBehindIn_of_false hm]
  refine (h f ρ e).bind fun a va σ₁ ρ₁ q₁ _ r₁ => Run.bind (Run.holding (q₁ f ρ₁ e)) fun b vb σ₂ ρ₂ q₂ k₂ r₂ => Run.standAt ?_
  exact Run.bind (Run.operate (q₂ f ρ₂ va vb e (r₁.mono k₂) r₂)) fun c vc σ₃ ρ₃ q₃ k₃ r₃ => Run.holding (q₃ f ρ₃ vc e r₃)
theorem TB.cmp2 {l op op' r r' p} {Q : Bool → St → Prop} (h : TE x E σ l fun a σ₁ => TE x E σ₁ r fun b σ₂ => Op2 x E (compareOp op) a b σ₂ fun c σ₃ => Truth x E c σ₃ fun t σ₄ =>
    if t then TE x E σ₄ r' fun d σ₅ => Op2 x E (compareOp op') b d σ₅ fun c' σ₆ => Truth x E c' σ₆ Q else Q false σ₄) (hm' : behindInMarks op' r' = false) : TB x E σ (.Compare l [op, op'] [r, r'] p) Q := fun f ρ e => by
  have e0 : isTrue (.Compare l [op, op'] [r, r'] p) f.ev (eval (.Compare l [op, op'] [r, r'] p) f.ev) = (do
      let a ← eval l f.ev
      let rv ← PySem.holding [a] (eval r f.ev)
      PySem.standAt p
      let c ← PySem.holding [a, rv] (compareOp op a rv)
      PySem.release [a, rv] [c]
      if ← PySem.holding [c, rv] (truthy c) then (do
        let rv' ← PySem.holding [rv] (markedBehindIn op' r' (eval r' f.ev))
        PySem.standAt p
        let c ← PySem.operate [rv, rv'] (compareOp op' rv rv')
        PySem.holding [c] (truthy c)) else Pure.pure false) := rfl
  rw [e0, markedBehindIn_of_false hm']
  refine (h f ρ e).bind fun a va σ₁ ρ₁ q₁ _ r₁ => Run.bind (Run.holding (q₁ f ρ₁ e)) fun b vb σ₂ ρ₂ q₂ k₂ r₂ => Run.standAt ?_
  refine Run.bind (Run.holding (q₂ f ρ₂ va vb e (r₁.mono k₂) r₂)) fun c vc σ₃ ρ₃ q₃ k₃ r₃ => Run.release ?_
  refine Run.bind (Run.holding (q₃ f ρ₃ vc e r₃)) fun t ct σ₄ ρ₄ q₄ k₄ r₄ => ?_
  cases r₄
  cases t with
  | false => exact Run.pure rfl q₄
  | true =>
    refine Run.bind (Run.holding (q₄ f ρ₄ e)) fun d vd σ₅ ρ₅ q₅ k₅ r₅ => Run.standAt ?_
    exact Run.bind (Run.operate (q₅ f ρ₅ vb vd e (r₂.mono (k₃.trans (k₄.trans k₅))) r₅)) fun c vc σ₃ ρ₃ q₃ k₃ r₃ => Run.holding (q₃ f ρ₃ vc e r₃)

theorem TE.ifexp {t b o p} {Q : V → St → Prop} (h : TB x E σ t fun c σ₁ => if c then TE x E σ₁ b Q else TE x E σ₁ o Q) : TE x E σ (.IfExp t b o p) Q := fun f ρ e => by
  rw [arm_eval_IfExp]
  refine (h f ρ e).bind fun c c' σ₁ ρ₁ q₁ _ r₁ => ?_
  cases r₁
  cases c with
  | false => exact q₁ f ρ₁ e
  | true => exact q₁ f ρ₁ e
theorem TB.val {e : Expr} {Q : Bool → St → Prop} (h : TE x E σ e fun v σ₁ => Truth x E v σ₁ Q) (he : ∀ env, isTrue e env (eval e env) = (do let v ← eval e env; PySem.standAt e.pos; PySem.holding [v] (truthy v))) : TB x E σ e Q := fun f ρ ex => by
  rw [he]
  exact (h f ρ ex).bind fun a va σ₁ ρ₁ q₁ _ r₁ => Run.standAt (Run.holding (q₁ f ρ₁ va ex r₁))
theorem TB.not {e : Expr} {p} {Q : Bool → St → Prop} (h : TB x E σ e fun b σ₁ => Q (!b) σ₁) : TB x E σ (.UnaryOp .Not e p) Q := fun f ρ ex => by
  rw [arm_isTrue_UnaryOp]
  refine (h f ρ ex).bind fun a va σ₁ ρ₁ q₁ _ r₁ => ?_
  cases r₁
  exact Run.pure rfl q₁
theorem TE.not {e : Expr} {p} {Q : V → St → Prop} (h : TE x E σ e fun v σ₁ => Truth x E v σ₁ fun b σ₂ => Q (.bool (!b)) σ₂) : TE x E σ (.UnaryOp .Not e p) Q := fun f ρ ex => by
  rw [arm_eval_UnaryOp]
  refine (h f ρ ex).bind fun a va σ₁ ρ₁ q₁ _ r₁ => Run.standAt (Run.holding ?_)
  intro hh tk R Qc Ec hq he
  refine not_of ((q₁ f ρ₁ va ex r₁) hh tk R _ Ec ?_ he)
  intro b b' σ' ρ' h' t' q k R' r
  cases r
  exact hq _ _ σ' ρ' h' t' q k R' rfl
theorem TB.and {a b : Expr} {p} {Q : Bool → St → Prop} (h : TB x E σ a fun c σ₁ => if c then TB x E σ₁ b Q else Q false σ₁) : TB x E σ (.BoolOp .And [a, b] p) Q := fun f ρ ex hh tk R Qc Ec hq he => by
  refine wpAny_isTrue_BoolOp (wpAny_allTrue_And_cons ((h f ρ ex) hh tk R _ Ec ?_ he))
  intro c c' σ₁ ρ₁ h₁ t₁ q₁ k₁ R₁ r₁
  cases r₁
  cases c with
  | false => exact hq false _ σ₁ ρ₁ h₁ t₁ q₁ k₁ R₁ rfl
  | true =>
    refine wpAny_allTrue_And_cons ((q₁ f ρ₁ ex) h₁ t₁ R₁ _ Ec ?_ (he.mono k₁))
    intro c c' σ₂ ρ₂ h₂ t₂ q₂ k₂ R₂ r₂
    cases r₂
    have z := hq c _ σ₂ ρ₂ h₂ t₂ q₂ (k₁.trans k₂) R₂ rfl
    cases c with
    | false => exact z
    | true => exact wpAny_allTrue_And_nil z
theorem TB.or {a b : Expr} {p} {Q : Bool → St → Prop} (h : TB x E σ a fun c σ₁ => if c then Q true σ₁ else TB x E σ₁ b Q) : TB x E σ (.BoolOp .Or [a, b] p) Q := fun f ρ ex hh tk R Qc Ec hq he => by
  refine wpAny_isTrue_BoolOp (wpAny_allTrue_Or_cons ((h f ρ ex) hh tk R _ Ec ?_ he))
  intro c c' σ₁ ρ₁ h₁ t₁ q₁ k₁ R₁ r₁
  cases r₁
  cases c with
  | true => exact hq true _ σ₁ ρ₁ h₁ t₁ q₁ k₁ R₁ rfl
  | false =>
    refine wpAny_allTrue_Or_cons ((q₁ f ρ₁ ex) h₁ t₁ R₁ _ Ec ?_ (he.mono k₁))
    intro c c' σ₂ ρ₂ h₂ t₂ q₂ k₂ R₂ r₂
    cases r₂
    have z := hq c _ σ₂ ρ₂ h₂ t₂ q₂ (k₁.trans k₂) R₂ rfl
    cases c with
    | true => exact z
    | false => exact wpAny_allTrue_Or_nil z
theorem TE.and {a b : Expr} {p} {Q : V → St → Prop} (h : TE x E σ a fun v σ₁ => Truth x E v σ₁ fun c σ₂ => if c then TE x E σ₂ b Q else Q v σ₂) : TE x E σ (.BoolOp .And [a, b] p) Q := fun f ρ ex hh tk R Qc Ec hq he => by
  refine wpAny_And2 ((h f ρ ex) hh tk R _ Ec ?_ he)
  intro v v' σ₁ ρ₁ h₁ t₁ q₁ k₁ R₁ r₁
  refine (q₁ f ρ₁ v' ex r₁) h₁ t₁ R₁ _ Ec ?_ (he.mono k₁)
  intro c c' σ₂ ρ₂ h₂ t₂ q₂ k₂ R₂ r₂
  cases r₂
  cases c with
  | false => exact hq v v' σ₂ ρ₂ h₂ t₂ q₂ (k₁.trans k₂) R₂ (r₁.mono k₂)
  | true => exact (q₂ f ρ₂ ex) h₂ t₂ R₂ Qc Ec (fun b a σ₃ ρ₃ h₃ t₃ q₃ k₃ R₃ r₃ => hq b a σ₃ ρ₃ h₃ t₃ q₃ (k₁.trans (k₂.trans k₃)) R₃ r₃) (he.mono (k₁.trans k₂))

theorem TS.if_ {t b o p} {Q : Fl → St → Prop} (h : TB x E σ t fun c σ₁ => if c then TSs x E σ₁ b Q else TSs x E σ₁ o Q) : TS x E σ (.If t b o p) Q := fun f ρ e => by
  rw [exec_If]
  refine Run.standAt ((h f ρ e).bind fun c c' σ₁ ρ₁ q₁ _ r₁ => ?_)
  cases r₁
  cases c with
  | false => exact q₁ f ρ₁ e
  | true => exact q₁ f ρ₁ e
theorem TS.ret {e p} {Q : Fl → St → Prop} (h : TE x E σ e fun v σ₁ => Q (.ret v) σ₁) : TS x E σ (.Return (some e) p) Q := fun f ρ ex => by
  rw [exec_Return_some]
  exact Run.standAt ((h f ρ ex).bind fun c c' σ₁ ρ₁ q₁ _ r₁ => Run.pure (b := Fl.ret c) ⟨c', rfl, r₁⟩ q₁)
end
end
section
section
variable {f : Fx} {ρ : List Addr} {σ : St} {h h' : Heap} {m : PySem.Str → Option Value} {objs fo : List Obj}
theorem RelW.adopt (W : RelW f ρ σ h m objs fo) {a : Addr} {o : Obj} {x : O} (ha : a ∉ f.os.map (·.1) ++ (f.kp.map (·.1) ++ ρ)) (hL : a ≠ f.L) (hb : f.base.get? a = none) (hn : h.get? a = some o) (r : Ro f.w f.base ρ x o) :
    RelW f (ρ ++ [a]) ⟨σ.loc, σ.H ++ [x]⟩ h m (objs ++ [o]) fo := by
  have hpre : ρ <+: ρ ++ [a] := ⟨[a], rfl⟩
  refine ⟨W.ok, W.fr, fun y V e => ?_, fun p hp => ?_, W.ns, (W.obj.mono fun _ _ => Ro.mono hpre).append (.cons (r.mono hpre) .nil), by simp [W.len], ?_, fun y i e => ?_⟩
  · obtain ⟨v, hv, rv⟩ := W.loc y V e
    exact ⟨v, hv, rv.mono hpre⟩
  · rw [List.zip_append W.len] at hp
    rcases List.mem_append.mp hp with q | q
    · exact W.news p (List.mem_append_left _ q)
    · rcases List.mem_append.mp q with q | q
      · exact W.news p (List.mem_append_right _ (List.mem_append_left _ q))
      · rcases List.mem_append.mp q with q | q
        · exact W.news p (List.mem_append_right _ (List.mem_append_right _ q))
        · simp at q
          subst q
          exact ⟨hn, hL, hb⟩
  · have e : f.os.map (·.1) ++ (f.kp.map (·.1) ++ (ρ ++ [a])) = (f.os.map (·.1) ++ (f.kp.map (·.1) ++ ρ)) ++ [a] := by simp
    rw [e, List.nodup_append]
    refine ⟨W.nd, by simp, ?_⟩
    intro b hb c hc z
    rw [List.mem_singleton] at hc
    exact ha (hc ▸ z ▸ hb)
  · obtain ⟨c, h1, h2⟩ := W.cells y i e
    exact ⟨c, h1, pre_get hpre h2⟩

/-- a new frame f' above the frame f: its own map m', its names loc' -/
theorem RelW.enter (W : RelW f ρ σ h m objs fo) {f' : Fx} {m' : PySem.Str → Option Value} {loc' : List (PySem.Str × V)} (ok : f'.Ok) (eb : f'.base = f.base) (ew : f'.w = f.w) (eo : f'.os = (f.L, m) :: f.os) (ek : f'.kp = f.kp)
    (hl : h.objs.size ≤ f'.L) (hns : h'.Ns f'.L m') (k : ∀ b o, h.get? b = some o → h'.get? b = some o) (hloc : ∀ x V, loc'.lookup x = some V → ∃ v, m' x = some v ∧ Rv f.base ρ V v) (hcells : f'.x.cells = []) :
    ∃ oL, RelW f' ρ ⟨loc', σ.H⟩ h' m' objs (oL :: fo) := by
  obtain ⟨oL, es, ep, hL, hd, hk, hf⟩ := W.fr.ns
  have lt : ∀ {a : Addr} {o : Obj}, h.get? a = some o → a ≠ f'.L := fun e q => absurd (Heap.lt_size e) (Nat.not_lt.mpr (q ▸ hl))
  have bL : f.base.get? f.L = none := by
    cases q : f.base.get? f.L with
    | none => rfl
    | some o => exact absurd (Nat.lt_of_lt_of_le (Heap.lt_size q) W.fr.above) (Nat.lt_irrefl _)
  refine ⟨oL, ok, ⟨hns, fun b o e => k _ _ (W.fr.keep _ _ (eb ▸ e)), by rw [eb]; exact Nat.le_trans W.fr.above (Nat.le_trans (Nat.le_of_lt (Heap.lt_size hL)) hl)⟩, ?_, fun p hp => ?_, ?_, ?_, W.len, ?_, fun x i e => by rw [hcells] at e; cases e⟩
  · intro x V e; rw [eb]; exact hloc x V e
  · rw [eo, ek] at hp
    rw [eb]
    simp only [List.map_cons, List.zip_cons_cons, List.cons_append] at hp
    rcases List.mem_cons.mp hp with rfl | hp
    · exact ⟨k _ _ hL, lt hL, bL⟩
    · have z := W.news p hp
      exact ⟨k _ _ z.1, lt z.1, z.2.2⟩
  · rw [eo]; exact .cons ⟨es, ep, hd, hk, hf⟩ W.ns
  · rw [eb, ew]; exact W.obj
  · rw [eo, ek]
    simp only [List.map_cons, List.cons_append]
    refine List.nodup_cons.mpr ⟨fun q => ?_, W.nd⟩
    rcases List.mem_append.mp q with q | q
    · obtain ⟨i, hi⟩ := List.mem_iff_getElem?.mp q
      have hl' : i < fo.length := by
        have := W.ns.length
        simp at this
        rw [← this]
        have := (List.getElem?_eq_some_iff.mp hi).1
        simpa using this
      exact (W.news _ (List.mem_append_left _ (zip_mem hi (List.getElem?_eq_getElem hl')))).2.1 rfl
    · rcases List.mem_append.mp q with q | q
      · obtain ⟨p, hp, e⟩ := List.mem_map.mp q
        exact (W.news _ (List.mem_append_right _ (List.mem_append_left _ hp))).2.1 e
      · obtain ⟨i, hi⟩ := List.mem_iff_getElem?.mp q
        have hl' : i < objs.length := by rw [← W.len]; exact (List.getElem?_eq_some_iff.mp hi).1
        exact (W.news _ (List.mem_append_right _ (List.mem_append_right _ (zip_mem hi (List.getElem?_eq_getElem hl'))))).2.1 rfl

/-- back in the frame f, from a frame f' above it -/
theorem RelW.back (W : RelW f ρ σ h m objs fo) {f' : Fx} {ρ' : List Addr} {σ' : St} {h' : Heap} (eb : f'.base = f.base) (ew : f'.w = f.w) (eo : f'.os = (f.L, m) :: f.os) (ek : f'.kp = f.kp) (hp : ρ <+: ρ')
    (R' : Rel f' ρ' σ' h') : Rel f ρ' ⟨σ.loc, σ'.H⟩ h' := by
  obtain ⟨m', objs', fo', W'⟩ := R'
  have ns := W'.ns
  rw [eo] at ns
  cases ns with
  | @cons _ oL _ fo₁ hN hr =>
  have z := W'.news (f.L, oL) (List.mem_append_left _ (by rw [eo]; exact List.mem_cons_self ..))
  obtain ⟨es, ep, hd, hk, hf⟩ := hN
  have nd := W'.nd
  rw [eo, ek] at nd
  simp only [List.map_cons, List.cons_append] at nd
  obtain ⟨nd1, nd2⟩ := List.nodup_cons.mp nd
  refine ⟨m, objs', fo₁, W.ok, ⟨⟨oL, es, ep, z.1, hd, hk, hf⟩, fun b o e => W'.fr.keep b o (eb.symm ▸ e), W.fr.above⟩, fun x V e => ?_, fun p hp => ?_, hr, ?_, W'.len, nd2, fun x i e => ?_⟩
  · obtain ⟨v, hv, r⟩ := W.loc x V e
    exact ⟨v, hv, r.mono hp⟩
  · have hp' : p ∈ (f'.os.map (·.1)).zip (oL :: fo₁) ++ (f'.kp ++ ρ'.zip objs') := by
      rw [eo, ek]
      simp only [List.map_cons, List.zip_cons_cons, List.cons_append]
      exact List.mem_cons_of_mem _ hp
    have y := W'.news p hp'
    refine ⟨y.1, fun q => nd1 ?_, eb ▸ y.2.2⟩
    rw [← q]
    rcases List.mem_append.mp hp with hp | hp
    · exact List.mem_append_left _ (List.of_mem_zip hp).1
    · rcases List.mem_append.mp hp with hp | hp
      · exact List.mem_append_right _ (List.mem_append_left _ (List.mem_map_of_mem hp))
      · exact List.mem_append_right _ (List.mem_append_right _ (List.of_mem_zip hp).1)
  · have := W'.obj
    rw [eb, ew] at this
    exact this
  · obtain ⟨c, h1, h2⟩ := W.cells x i e
    exact ⟨c, h1, pre_get hp h2⟩

theorem Rel.forget (R : Rel f ρ σ h) {loc' : List (PySem.Str × V)} (k : ∀ x V, loc'.lookup x = some V → σ.loc.lookup x = some V) : Rel f ρ ⟨loc', σ.H⟩ h := by
  obtain ⟨m, o, fo, W⟩ := R
  exact ⟨m, o, fo, W.ok, W.fr, fun x V e => W.loc x V (k x V e), W.news, W.ns, W.obj, W.len, W.nd, W.cells⟩
end

/-- the frame of a called def above f -/
noncomputable def Fx.above (f : Fx) (sc : Scope) (d : Nat) (env : Env) (L : Addr) (m : PySem.Str → Option Value) : Fx :=
  { f with x := ⟨sc, [], d, false, true⟩, A := f.A.deeper env, ev := env, fenv := env, outer := f.fenv :: f.outer, L := L, os := (f.L, m) :: f.os }
theorem Fx.Ok.above {f : Fx} (ok : f.Ok) (hn : f.x.hx = false) {sc : Scope} {d : Nat} {env : Env} {L : Addr} {m : PySem.Str → Option Value} (hd : d < f.x.d) (hs : env.scope = sc) (hk : sc.kind = .function) (hl : env.locals = L) (hg : env.globals = mainGlobals)
    (hb : env.builtins = builtinsNs) (hf : env.frame = some L) : (f.above sc d env L m).Ok where
  ki := ok.ki
  top := ok.top
  kind := by show env.scope.kind = _; rw [hs]; exact hk
  sc := hs
  loc := hl
  glob := hg
  blt := hb
  frm := rfl
  fr := Around.frames_deeper ok.fr
  hand := fun _ => ok.hand hn
  guards := ok.guards
  frs := fun e he => by
    rcases List.mem_cons.mp he with rfl | he
    · exact ⟨by rw [hs, hk]; decide, L, hf, .inl rfl⟩
    · obtain ⟨h1, L', h2, h3⟩ := ok.frs e he
      refine ⟨h1, L', h2, .inr ?_⟩
      show L' ∈ f.L :: f.os.map (·.1)
      rcases h3 with rfl | h3
      · exact List.mem_cons_self ..
      · exact List.mem_cons_of_mem _ h3
  fe := fun _ => ⟨rfl, hf⟩
  depth := by
    show f.A.depth + 1 + d < recursionLimit
    have := ok.depth
    (first | lia | omega)
  units := by
    show f.A.units + 3 + 16 * d + 64 < cLine
    have := ok.units
    (first | lia | omega)

/-- what an exception does on its way out of the def f' called from f; shown below -/
noncomputable def LeavesTo (f f' : Fx) (ρ : List Addr) : Prop :=
  ∀ (ρ' : List Addr) (σ : St) (loc : List (PySem.Str × V)) (j : Nat) (e : Addr) (h : Heap) (tk : Nat) (Q : Unit → Shared → Prop) (E : Value → Shared → Prop), ρ <+: ρ' → Rel f' ρ' σ h → ExcAt f' ρ' j e h →
    (∀ h', Rel f' ρ' σ h' → ExcAt f' ρ' j e h' → Q () (f.st h' tk)) → wpAny (model PG f.w) f'.A (leaving f'.ev (.ref e)) Q E (f.st h tk)

/-- a call of the def at the address a: what it gives, and what it makes of the objects -/
noncomputable def TC (d : Nat) (E : Nat → List O → Prop) (a : Addr) (args : List V) (H : List O) (Q : V → List O → Prop) : Prop :=
  ∀ f ρ vs σ, d < f.x.d → f.x.hx = false → σ.H = H → Rvs f.base ρ args vs → Run f Rv (fun j σ' => σ'.loc = σ.loc ∧ E j σ'.H) ρ σ (call (.ref a) vs) (fun v σ' => σ'.loc = σ.loc ∧ Q v σ'.H)
noncomputable def Binds (a : FuncData) (args : List V) (binds : List (PySem.Str × V)) : Prop :=
  ∀ (f : Fx) (ρ : List Addr) (vs : List Value), Rvs f.base ρ args vs → ∃ bs, (∀ s : Shared, (hd.heap_39 f.w.params).In s.heap → BindsTo s a ⟨vs, []⟩ bs) ∧ All2 (fun p b => p.1 = b.1 ∧ Rv f.base ρ p.2 b.2) binds bs
theorem binds_lookup {B : Heap} {ρ : List Addr} {x : PySem.Str} {V : V} {ps : List (PySem.Str × Mine.V)} {bs : List (PySem.Str × Value)} (h : All2 (fun p b => p.1 = b.1 ∧ Rv B ρ p.2 b.2) ps bs) : ps.lookup x = some V → ∃ v, bs.lookup x = some v ∧ Rv B ρ V v := by
  induction h with
  | nil => intro e; cases e
  | @cons p b ps bs h t ih =>
    intro e
    obtain ⟨h1, h2⟩ := h
    obtain ⟨n, u⟩ := p
    obtain ⟨n', u'⟩ := b
    simp only at h1 h2
    subst h1
    simp only [List.lookup_cons] at e ⊢
    by_cases q : (x == n) = true
    · simp only [q] at e ⊢
      cases e
      exact ⟨u', rfl, h2⟩
    · have q' : (x == n) = false := by simpa using q
      simp only [q'] at e ⊢
      exact ih e
theorem All2.reverse {α β : Type} {R : α → β → Prop} {as : List α} {bs : List β} (h : All2 R as bs) : All2 R as.reverse bs.reverse := by
  induction h with
  | nil => exact .nil
  | cons h _ ih => rw [List.reverse_cons, List.reverse_cons]; exact ih.append (.cons h .nil)
theorem All2.map_fst {B : Heap} {ρ : List Addr} {ps : List (PySem.Str × V)} {bs : List (PySem.Str × Value)} (h : All2 (fun p b => p.1 = b.1 ∧ Rv B ρ p.2 b.2) ps bs) : ps.map (·.1) = bs.map (·.1) := by
  induction h with
  | nil => rfl
  | cons h _ ih => rw [List.map_cons, List.map_cons, h.1, ih]

theorem TC.plain {d : Nat} {E : Nat → List O → Prop} {a : Addr} {args : List V} {H : List O} {Q : V → List O → Prop} {name qual : PySem.Str} {params : Arguments} {body : List Stmt} {scope : Scope} {dV kV doc pm cdv ct oc : Value} {an od : Option Addr} {osl : Array (Option Value)} {binds : List (PySem.Str × V)}
    (ho : ∀ P, (hd.heap_39 P).lookup a = some ⟨oc, od, .func (fnX name qual params body scope [] dV kV doc pm an cdv ct), osl⟩) (hcd : ∀ P, codeIn (hd.heap_39 P) cdv qual = true)
    (hb : Binds (fnX name qual params body scope [] dV kV doc pm an cdv ct) args binds) (hl : (binds.map (·.1)).all (fun y => scope.names.lookup y == some .local) = true) (hcell : (scope.names.all fun x => x.2 != .cell) = true)
    (h : TSs ⟨scope, [], d, false, true⟩ (fun j σ' => E j σ'.H) ⟨binds.reverse, H⟩ body (fun fl σ' => match fl with | .ret v => Q v σ'.H | .next => Q .none σ'.H | _ => False))
    (lv : ∀ f f' ρ m L, f.Ok → f'.Ok → f' = f.above scope d (envX qual scope L a cdv []) L m → LeavesTo f f' ρ)
    (hco : scope.isCoroutine = false := by rfl) (hgen : scope.isGenerator = false := by rfl) (hk : scope.kind = .function := by rfl) : TC d E a args H Q := by
  intro f ρ vs σ hdd hnn eH ra hh tk R Qc Ec hq he
  obtain ⟨m, objs, fo, W⟩ := R
  have KI : (hd.heap_39 f.w.params).In hh := W.ok.ki.keeps W.fr.keep
  obtain ⟨bs, hbind, hbs⟩ := hb f ρ vs ra
  have hnames : ∀ y ∈ bs, scope.names.lookup y.1 = some .local := fun y hy => by
    have := List.all_eq_true.mp hl y.1 (by rw [hbs.map_fst]; exact List.mem_map_of_mem hy)
    simpa using this
  refine wpAny_call (codeAny_call_def (fd := fnX name qual params body scope [] dV kV doc pm an cdv ct) (body := body) (binds := bs) ?_ (KI _ _ (ho _)) rfl (W.ok.top.nolimit.keeps W.fr.keep) (codeRec_of KI (hcd _)) rfl (hbind _ KI) ?_ hnames ?_ hco hgen hk)
  · have := W.ok.depth; (first | lia | omega)
  · intro y hy
    have := List.all_eq_true.mp hcell y hy
    simpa using this
  · intro h₁ hns hk₁
    have ok' : (f.above scope d (envX qual scope hh.objs.size a cdv []) hh.objs.size m).Ok := W.ok.above hnn hdd rfl hk rfl rfl rfl rfl
    obtain ⟨oL, W'⟩ := W.enter (f' := f.above scope d (envX qual scope hh.objs.size a cdv []) hh.objs.size m) (loc' := binds.reverse) ok' rfl rfl rfl rfl (Nat.le_refl _) hns hk₁ (fun x V e => binds_lookup hbs.reverse e) rfl
    rw [eH] at W'
    refine (h _ ρ rfl) h₁ (tk + bs.length) ⟨_, _, _, W'⟩ _ _ ?_ ⟨PassesOwn.leaving, ?_⟩
    · intro fl fl' σ' ρ' h' t' q k R' r
      have RB := W.back (f' := f.above scope d (envX qual scope hh.objs.size a cdv []) hh.objs.size m) rfl rfl rfl rfl k R'
      cases fl with
      | next => cases r; exact hq .none _ ⟨σ.loc, σ'.H⟩ ρ' h' t' ⟨rfl, q⟩ k RB rfl
      | brk => exact q.elim
      | cont => exact q.elim
      | ret v => obtain ⟨v', rfl, r⟩ := r; exact hq v v' ⟨σ.loc, σ'.H⟩ ρ' h' t' ⟨rfl, q⟩ k RB r
    · intro j σ' ρ' h' t' e q k R' X'
      refine lv f _ ρ m _ W.ok ok' rfl ρ' σ' σ.loc j e h' t' _ _ k R' X' fun h₂ R₂ X₂ => ?_
      have RB := W.back (f' := f.above scope d (envX qual scope hh.objs.size a cdv []) hh.objs.size m) rfl rfl rfl rfl k R₂
      refine he.2 j ⟨σ.loc, σ'.H⟩ ρ' h₂ t' e ⟨rfl, q⟩ k RB ⟨X₂.new, fun z => X₂.apart ?_, ?_⟩
      · show e ∈ hh.objs.size :: (f.L :: f.os.map (·.1) ++ (f.kp.map (·.1) ++ ρ'))
        refine List.mem_cons_of_mem _ ?_
        simpa [tracked] using z
      · obtain ⟨oe, vs', t, dd, h1, h2, h3, h4, h5, h6, h7⟩ := X₂.here
        refine ⟨oe, vs', t, dd, h1, h2, h3, h4, h5, h6, ?_⟩
        rcases h7 with h7 | ⟨T, oT, ts, a1, a2, a3⟩
        · exact .inl h7
        · refine .inr ⟨T, oT, ts, a1, fun z => a2 ?_, a3⟩
          show T ∈ hh.objs.size :: (f.L :: f.os.map (·.1) ++ (f.kp.map (·.1) ++ ρ'))
          refine List.mem_cons_of_mem _ ?_
          simpa [tracked] using z
end
section
section
variable {x : Sx} {E : Nat → St → Prop} {σ : St}
/-- evaluating a global name gives the value v, the same in every world -/
theorem eval_gname {f : Fx} {n : PySem.Str} {p : Pos} {v : Value} {h : Heap} {tk : Nat} {Qc : Value → Shared → Prop} {Ec : Value → Shared → Prop} (ok : f.Ok) (st : f.base.StaysIn h) (hk : f.x.sc.names.lookup n = some .globalImplicit)
    (hg : nsIn (hd.heap_39 f.w.params) mainGlobals n = some (some v)) (q : Qc v (f.st h tk)) (hdb : (n == ("__debug__" : PySem.Str)) = false) : wpAny (model PG f.w) f.A (eval (.Name n p) f.ev) Qc Ec (f.st h tk) := by
  refine Name_function_global ok.kind ?_ (loadGlobal_global (mg := f.mg) ?_ (mg_of ok.ki ok.top.g hg) q) hdb
  · show f.ev.scope.names.lookup n = _
    rw [ok.sc]; exact hk
  · rw [ok.glob]; exact ok.top.g.keeps st
theorem eval_bname {f : Fx} {n : PySem.Str} {p : Pos} {v : Value} {h : Heap} {tk : Nat} {Qc : Value → Shared → Prop} {Ec : Value → Shared → Prop} (ok : f.Ok) (st : f.base.StaysIn h) (hk : f.x.sc.names.lookup n = some .globalImplicit)
    (hg : nsIn (hd.heap_39 f.w.params) mainGlobals n = some Option.none) (hv : bootBuiltins n = some v) (hn : n ≠ "__name__") (q : Qc v (f.st h tk)) (hdb : (n == ("__debug__" : PySem.Str)) = false) : wpAny (model PG f.w) f.A (eval (.Name n p) f.ev) Qc Ec (f.st h tk) := by
  refine Name_function_global ok.kind ?_ (loadGlobal_builtin (mg := f.mg) (mb := f.mb) ?_ (mg_none_of ok.ki ok.top.g hg) ?_ ((ok.top.builtins n hn).trans hv) q) hdb
  · show f.ev.scope.names.lookup n = _
    rw [ok.sc]; exact hk
  · rw [ok.glob]; exact ok.top.g.keeps st
  · rw [ok.blt]; exact ok.top.b.keeps st
theorem TE.gint {n : PySem.Str} {p : Pos} {i : Int} {t : Tok} {Q : V → St → Prop} (hk : x.sc.names.lookup n = some .globalImplicit) (hg : ∀ P, nsIn (hd.heap_39 P) mainGlobals n = some (some (.int i t))) (h : Q (.int i) σ)
    (hdb : (n == ("__debug__" : PySem.Str)) = false) : TE x E σ (.Name n p) Q := fun f ρ e hh tk R Qc Ec hq _ =>
  eval_gname R.ok R.stays (by rw [e]; exact hk) (hg _) (hq (.int i) _ σ ρ hh tk h (List.prefix_refl _) R ⟨_, rfl⟩) hdb

theorem TA.nil {Q : List V → St → Prop} (h : Q [] σ) : TA x E σ [] Q := fun _ _ _ _ => Run.pure (b := []) .nil h
theorem TA.cons {e : Expr} {r : List Expr} {Q : List V → St → Prop} (h : TE x E σ e fun v σ₁ => TA x E σ₁ r fun vs σ₂ => Q (v :: vs) σ₂) (he : ∀ env, starEach (e :: r) env = (false, eval e env) :: starEach r env) : TA x E σ (e :: r) Q := fun f ρ pos ex => by
  rw [he]
  show Run f Rvs E ρ σ (spliced ((false, eval e f.ev) :: backTo pos (starEach r f.ev))) Q
  rw [spliced]
  refine (h f ρ ex).bind fun a va σ₁ ρ₁ q₁ _ r₁ => ?_
  simp only [Bool.false_eq_true, if_false]
  refine Run.bind (rv := Rvs) (Q₁ := fun vs σ' => vs = [a] ∧ σ' = σ₁) (Run.pure (b := [a]) (.cons r₁ .nil) ⟨rfl, rfl⟩) fun vs va' σ₂ ρ₂ q₂ k₂ r₂ => ?_
  obtain ⟨rfl, rfl⟩ := q₂
  refine Run.bind (Run.holding (q₁ f ρ₂ pos ex)) fun ws wa σ₃ ρ₃ q₃ k₃ r₃ => ?_
  exact Run.pure (b := [a] ++ ws) ((r₂.mono fun _ _ => Rv.mono k₃).append r₃) q₃

/-- the call of a def, in a frame -/
noncomputable def CallF (x : Sx) (E : Nat → St → Prop) (a : Addr) (vs : List V) (σ : St) (Q : V → St → Prop) : Prop :=
  ∀ f ρ us, f.x = x → Rvs f.base ρ vs us → Run f Rv E ρ σ (call (.ref a) us) Q
theorem CallF.of {d : Nat} {a : Addr} {vs : List V} {Q : V → St → Prop} (hd : d < x.d) (hn : x.hx = false) (h : TC d (fun j H => E j ⟨σ.loc, H⟩) a vs σ.H fun v H => Q v ⟨σ.loc, H⟩) : CallF x E a vs σ Q := fun f ρ us e r => by
  refine ((h f ρ us σ (by rw [e]; exact hd) (by rw [e]; exact hn) rfl r).mono fun v σ' q => ?_).monoE fun j σ' q => ?_
  · obtain ⟨l, H⟩ := σ'; obtain ⟨rfl, q⟩ := q; exact q
  · obtain ⟨l, H⟩ := σ'; obtain ⟨rfl, q⟩ := q; exact q
theorem TE.call {n : PySem.Str} {p pos : Pos} {e : Expr} {r : List Expr} {a : Addr} {Q : V → St → Prop} (hk : x.sc.names.lookup n = some .globalImplicit) (hg : ∀ P, nsIn (hd.heap_39 P) mainGlobals n = some (some (.ref a)))
    (hkeep : ∀ P, keepIn (hd.heap_39 P) (.ref a) = true) (h : TA x E σ (e :: r) fun vs σ₁ => CallF x E a vs σ₁ Q) (he : ∀ env, starEach (e :: r) env = (false, eval e env) :: starEach r env)
    (hplain : ∀ env pos, (backTo pos (starEach r env)).any (·.1) = false) (hdb : (n == ("__debug__" : PySem.Str)) = false) : TE x E σ (.Call (.Name n p) (e :: r) [] pos) Q := fun f ρ ex hh tk R Qc Ec hq hE => by
  rw [arm_eval_Call_Name']
  refine wpAny_bind (eval_gname R.ok R.stays (by rw [ex]; exact hk) (hg _) ?_ hdb)
  have KI : (hd.heap_39 f.w.params).In hh := R.ok.ki.keeps R.stays
  refine callWith_K (K := hd.heap_39 f.w.params) KI (hkeep _) ((h f ρ pos ex) hh tk R _ Ec ?_ hE) (he _) (hplain _ _)
  intro vs us σ₁ ρ₁ h₁ t₁ q₁ k₁ R₁ r₁
  exact ⟨R₁.ok.ki.keeps R₁.stays, (q₁ f ρ₁ us ex r₁) h₁ t₁ R₁ Qc Ec (fun b a σ' ρ' h' t' q k R' r => hq b a σ' ρ' h' t' q (k₁.trans k) R' r) (hE.mono k₁)⟩

/-- the call of a built-in -/
noncomputable def CallB (x : Sx) (E : Nat → St → Prop) (b : Value) (vs : List V) (σ : St) (Q : V → St → Prop) : Prop :=
  ∀ f ρ us, f.x = x → Rvs f.base ρ vs us → Run f Rv E ρ σ (call b us) Q
theorem TE.callB {n : PySem.Str} {p pos : Pos} {e : Expr} {r : List Expr} {b : String} {Q : V → St → Prop} (hk : x.sc.names.lookup n = some .globalImplicit) (hg : ∀ P, nsIn (hd.heap_39 P) mainGlobals n = some Option.none)
    (hv : bootBuiltins n = some (.builtin b)) (hn : n ≠ "__name__") (h : TA x E σ (e :: r) fun vs σ₁ => CallB x E (.builtin b) vs σ₁ Q) (he : ∀ env, starEach (e :: r) env = (false, eval e env) :: starEach r env)
    (hplain : ∀ env pos, (backTo pos (starEach r env)).any (·.1) = false) (hdb : (n == ("__debug__" : PySem.Str)) = false) : TE x E σ (.Call (.Name n p) (e :: r) [] pos) Q := fun f ρ ex hh tk R Qc Ec hq hE => by
  rw [arm_eval_Call_Name']
  refine wpAny_bind (eval_bname R.ok R.stays (by rw [ex]; exact hk) (hg _) hv hn ?_ hdb)
  have z := (h f ρ pos ex) hh tk R (fun us s₁ => wpAny (model PG f.w) f.A (PySem.call (Value.builtin b) us) Qc Ec s₁) Ec (fun vs us σ₁ ρ₁ h₁ t₁ q₁ k₁ R₁ r₁ =>
    (q₁ f ρ₁ us ex r₁) h₁ t₁ R₁ Qc Ec (fun b a σ' ρ' h' t' q k R' r => hq b a σ' ρ' h' t' q (k₁.trans k) R' r) (hE.mono k₁)) hE
  rw [he] at z ⊢
  exact Calls.callWith_builtin (by show (false || (backTo pos (starEach r f.ev)).any (·.1)) = false; rw [hplain]; rfl) (Calls.evalArgs_plain z)
theorem TE.callT {n : PySem.Str} {p pos : Pos} {e : Expr} {r : List Expr} {b : String} {Q : V → St → Prop} (hk : x.sc.names.lookup n = some .globalImplicit) (hg : ∀ P, nsIn (hd.heap_39 P) mainGlobals n = some Option.none)
    (hv : bootBuiltins n = some (.type b)) (hn : n ≠ "__name__") (h : TA x E σ (e :: r) fun vs σ₁ => CallB x E (.type b) vs σ₁ Q) (he : ∀ env, starEach (e :: r) env = (false, eval e env) :: starEach r env)
    (hplain : ∀ env pos, (backTo pos (starEach r env)).any (·.1) = false) (hdb : (n == ("__debug__" : PySem.Str)) = false) : TE x E σ (.Call (.Name n p) (e :: r) [] pos) Q := fun f ρ ex hh tk R Qc Ec hq hE => by
  rw [arm_eval_Call_Name']
  refine wpAny_bind (eval_bname R.ok R.stays (by rw [ex]; exact hk) (hg _) hv hn ?_ hdb)
  have z := (h f ρ pos ex) hh tk R (fun us s₁ => wpAny (model PG f.w) f.A (PySem.call (Value.type b) us) Qc Ec s₁) Ec (fun vs us σ₁ ρ₁ h₁ t₁ q₁ k₁ R₁ r₁ =>
    (q₁ f ρ₁ us ex r₁) h₁ t₁ R₁ Qc Ec (fun b a σ' ρ' h' t' q k R' r => hq b a σ' ρ' h' t' q (k₁.trans k) R' r) (hE.mono k₁)) hE
  rw [he] at z ⊢
  exact PyProof.Rows.callWith_type (by show (false || (backTo pos (starEach r f.ev)).any (·.1)) = false; rw [hplain]; rfl) (Calls.evalArgs_plain z)

theorem TB.call {n : PySem.Str} {p pos : Pos} {as : List Expr} {ks : List Keyword} {Q : Bool → St → Prop} (h : TE x E σ (.Call (.Name n p) as ks pos) fun v σ₁ => Truth x E v σ₁ Q) : TB x E σ (.Call (.Name n p) as ks pos) Q := TB.val h fun _ => rfl
theorem TB.name {n : PySem.Str} {p : Pos} {Q : Bool → St → Prop} (h : TE x E σ (.Name n p) fun v σ₁ => Truth x E v σ₁ Q) : TB x E σ (.Name n p) Q := TB.val h fun _ => rfl
theorem TB.const {c : Const} {k p} {Q : Bool → St → Prop} (h : TE x E σ (.Constant c k p) fun v σ₁ => Truth x E v σ₁ Q) : TB x E σ (.Constant c k p) Q := TB.val h fun _ => rfl
end
theorem Binds.one {a : FuncData} {u : V} {n : PySem.Str} (h : ∀ v, bindArgs a ⟨[v], []⟩ = pure [(n, v)]) : Binds a [u] [(n, u)] := fun f ρ vs r => by
  cases r with
  | cons r t => cases t; exact ⟨_, fun s _ => BindsTo.of_eq (h _), .cons ⟨rfl, r⟩ .nil⟩
theorem Binds.two {a : FuncData} {u u' : V} {n n' : PySem.Str} (h : ∀ v v', bindArgs a ⟨[v, v'], []⟩ = pure [(n, v), (n', v')]) : Binds a [u, u'] [(n, u), (n', u')] := fun f ρ vs r => by
  cases r with
  | cons r t => cases t with
    | cons r' t => cases t; exact ⟨_, fun s _ => BindsTo.of_eq (h _ _), .cons ⟨rfl, r⟩ (.cons ⟨rfl, r'⟩ .nil)⟩
theorem Binds.three {a : FuncData} {u u' u'' : V} {n n' n'' : PySem.Str} (h : ∀ v v' v'', bindArgs a ⟨[v, v', v''], []⟩ = pure [(n, v), (n', v'), (n'', v'')]) : Binds a [u, u', u''] [(n, u), (n', u'), (n'', u'')] := fun f ρ vs r => by
  cases r with
  | cons r t => cases t with
    | cons r' t => cases t with
      | cons r'' t => cases t; exact ⟨_, fun s _ => BindsTo.of_eq (h _ _ _), .cons ⟨rfl, r⟩ (.cons ⟨rfl, r'⟩ (.cons ⟨rfl, r''⟩ .nil))⟩
theorem Binds.four {a : FuncData} {u u' u'' u3 : V} {n n' n'' n3 : PySem.Str} (h : ∀ v v' v'' v3, bindArgs a ⟨[v, v', v'', v3], []⟩ = pure [(n, v), (n', v'), (n'', v''), (n3, v3)]) : Binds a [u, u', u'', u3] [(n, u), (n', u'), (n'', u''), (n3, u3)] := fun f ρ vs r => by
  cases r with
  | cons r t => cases t with
    | cons r' t => cases t with
      | cons r'' t => cases t with
        | cons r3 t => cases t; exact ⟨_, fun s _ => BindsTo.of_eq (h _ _ _ _), .cons ⟨rfl, r⟩ (.cons ⟨rfl, r'⟩ (.cons ⟨rfl, r''⟩ (.cons ⟨rfl, r3⟩ .nil)))⟩
theorem isCall {x : Sx} {E : Nat → St → Prop} {c : Addr} {as : List V} {σ : St} {Q : V → St → Prop} (h : CallF x E c as σ Q) : CallF x E c as σ Q := h
end
section
noncomputable def Ru (_ : Heap) (_ : List Addr) (_ : Unit) (_ : Unit) : Prop := True
noncomputable def TStore (x : Sx) (E : Nat → St → Prop) (n : PySem.Str) (v : V) (σ : St) (Q : St → Prop) : Prop := ∀ f ρ va, f.x = x → Rv f.base ρ v va → Run f Ru E ρ σ (storeName f.ev n va) fun (_ : Unit) => Q
noncomputable def TAsg (x : Sx) (E : Nat → St → Prop) (t : Expr) (v : V) (σ : St) (Q : St → Prop) : Prop := ∀ f ρ va, f.x = x → Rv f.base ρ v va → Run f Ru E ρ σ (assign t f.ev va) fun (_ : Unit) => Q
noncomputable def TAsgs (x : Sx) (E : Nat → St → Prop) (ts : List Expr) (vs : List V) (σ : St) (Q : St → Prop) : Prop :=
  ∀ f ρ us, f.x = x → Rvs f.base ρ vs us → Run f Ru E ρ σ (assignInOrder ((assignEach ts f.ev).map (·.2)) us) fun (_ : Unit) => Q

theorem extBut_size {h h' : Heap} (x : Heap.ExtBut h.objs.size h h') : ∀ b o, h.get? b = some o → h'.get? b = some o := fun b o e => x b o (Nat.ne_of_lt (Heap.lt_size e)) e

section
variable {x : Sx} {E : Nat → St → Prop} {σ : St}
theorem TStore.loc {n : PySem.Str} {v : V} {Q : St → Prop} (hk : x.sc.names.lookup n = some .local) (h : Q ⟨(n, v) :: σ.loc, σ.H⟩) : TStore x E n v σ Q := fun f ρ va e r hh tk R Qc Ec hq _ => by
  obtain ⟨m, objs, fo, W⟩ := id R
  refine wpAny_storeName_local (m := m) ?_ ?_ (fun h' hns hs => ?_) ?_
  · show f.ev.scope.names.lookup n = _
    rw [W.ok.sc, e]; exact hk
  · rw [W.ok.loc]; exact W.fr.ns
  · rw [W.ok.loc] at hns hs
    exact hq () () _ ρ h' (tk + 1) h (List.prefix_refl _) ⟨_, _, _, W.store hns hs r⟩ trivial
  · rw [W.ok.kind]; rfl
theorem TStore.cell {n : PySem.Str} {v : V} {i : Nat} {u : Option V} {Q : St → Prop} (hk : x.sc.names.lookup n = some .cell) (hc : x.cells.lookup n = some i) (hv : σ.H[i]? = some (.cell u)) (h : Q ⟨σ.loc, σ.H.set i (.cell (some v))⟩) : TStore x E n v σ Q := fun f ρ va e r hh tk R Qc Ec hq _ => by
  obtain ⟨m, objs, fo, W⟩ := id R
  obtain ⟨c, hc', hr⟩ := W.cells n i (by rw [e]; exact hc)
  obtain ⟨a, o, h1, h2, h3, h4, h5, ⟨w, hd', hf, _⟩⟩ := W.atObj hv
  rw [hr] at h1
  obtain rfl := Option.some.inj h1
  refine wpAny_storeName_cell W.ok.kind ?_ hc' ⟨o, h3, hd'⟩ fun h' hcell hs => ?_
  · show f.ev.scope.names.lookup n = _
    rw [W.ok.sc, e]; exact hk
  · obtain ⟨o', ho', hd2⟩ := hcell
    have hfr : o'.isFreed = false := by
      have := (Heap.get?_some_iff.mp ho').2
      exact this
    exact hq () () _ ρ h' tk h (List.prefix_refl _) ⟨_, _, _, W.update hr hs ho' ⟨_, hd2, hfr, va, rfl, r⟩⟩ trivial

theorem TAsg.name {n : PySem.Str} {p} {v : V} {Q : St → Prop} (h : TStore x E n v σ Q) : TAsg x E (.Name n p) v σ Q := fun f ρ va e r hh tk R Qc Ec hq he =>
  PyProof.Rows.assign_Name ((h f ρ va e r) hh tk R Qc Ec hq he)
theorem TAsgs.nil {Q : St → Prop} (h : Q σ) : TAsgs x E [] [] σ Q := fun f ρ us e r => by
  cases r
  exact Run.pure (b := ()) trivial h
theorem TAsgs.cons {t : Expr} {ts : List Expr} {v : V} {vs : List V} {Q : St → Prop} (h : TAsg x E t v σ fun σ₁ => TAsgs x E ts vs σ₁ Q) (he : ∀ env, assignEach (t :: ts) env = (false, assign t env) :: assignEach ts env) : TAsgs x E (t :: ts) (v :: vs) σ Q := fun f ρ us e r => by
  cases r with
  | @cons _ u _ us r rs =>
  rw [he]
  show Run f Ru E ρ σ (do PySem.holding us (assign t f.ev u); assignInOrder ((assignEach ts f.ev).map (·.2)) us) _
  exact Run.bind (Run.holding (h f ρ u e r)) fun _ _ σ₁ ρ₁ q₁ k₁ _ => q₁ f ρ₁ us e (rs.mono fun _ _ => Rv.mono k₁)

/-- a written tuple into targets, in order -/
theorem TAsg.tupRef {ts : List Expr} {k p} {i : Nat} {vs : List V} {Q : St → Prop} (hi : σ.H[i]? = some (.tuple vs)) (h : TAsgs x E ts vs σ Q) (hn : ts.length = vs.length) (hl : ∀ env, (assignEach ts env).length = ts.length) (hs : ∀ env, (assignEach ts env).findIdx? (·.1) = Option.none) (hh0 : x.hx = false := by rfl) :
    TAsg x E (.Tuple ts k p) (.ref i) σ Q := fun f ρ va e r => by
  obtain ⟨a, ha, rfl⟩ := r
  rw [arm_assign_Tuple]
  refine Run.standAt ?_
  unfold unpack
  rw [hs, hl]
  intro hh tk R Qc Ec hq he
  obtain ⟨a', o, h1, h2, ⟨l, n, ho, hr⟩⟩ := R.atObj hi
  rw [ha] at h1
  obtain rfl := Option.some.inj h1
  subst ho
  refine wpAny_bind (wpAny_holding ?_)
  have hz : ts.length = l.toArray.size := by rw [hn, hr.length]; simp
  rw [hz]
  refine unpackItems_tuple (R.ok.hand (by rw [e]; exact hh0)) ⟨_, h2, rfl, n, rfl⟩ fun h' he' => ?_
  exact (h f ρ l e hr) h' tk (R.keeps (extBut_size he')) Qc Ec hq he

/-- a tuple made and taken apart at once: no object is kept of it -/
theorem exec_tup_none {f : Fx} {ts es : List Expr} {k k' : Nat} {tp vp p : Pos} (hs : ∀ env : Env, env.scope = f.ev.scope → swapsWithSole [.Tuple ts k tp] (.Tuple es k' vp) p.line env = pure false)
    (hw : ∀ env : Env, env.scope = f.ev.scope → swappedStores [.Tuple ts k tp] (.Tuple es k' vp) env = pure Option.none) :
    exec (.Assign [.Tuple ts k tp] (.Tuple es k' vp) p) f.ev = (do
      PySem.standAt p
      let v ← eval (.Tuple es k' vp) f.ev
      assign (.Tuple ts k tp) f.ev v
      pure .next) := by
  rw [PyProof.Rows.exec_Assign, hs _ rfl, hw _ rfl]
  rfl
theorem exec_tup_some {f : Fx} {ts es : List Expr} {k k' : Nat} {tp vp p : Pos} {names : List PySem.Str} (hs : ∀ env : Env, env.scope = f.ev.scope → swapsWithSole [.Tuple ts k tp] (.Tuple es k' vp) p.line env = pure false)
    (hw : ∀ env : Env, env.scope = f.ev.scope → swappedStores [.Tuple ts k tp] (.Tuple es k' vp) env = pure (some names)) :
    exec (.Assign [.Tuple ts k tp] (.Tuple es k' vp) p) f.ev = (do
      PySem.standAt p
      let v ← eval (.Tuple es k' vp) f.ev
      rule "assign.swapped-stores"
      let items ← unpackItems v names.length Option.none
      assignInOrder (names.reverse.map fun n => bindName f.ev n) items.reverse
      pure .next) := by
  rw [PyProof.Rows.exec_Assign, hs _ rfl, hw _ rfl]
  rfl
theorem Run.assoc {α β γ δ : Type} {f : Fx} {ρ : List Addr} {rv : Heap → List Addr → δ → γ → Prop} {t : Sem α} {k : α → Sem β} {l : β → Sem γ} {Q : δ → St → Prop} (h : Run f rv E ρ σ (t >>= fun a => k a >>= l) Q) : Run f rv E ρ σ ((t >>= k) >>= l) Q := by
  rw [bind_assoc]; exact h

theorem TS.asgD {ts es : List Expr} {k k' : Nat} {tp vp p : Pos} {Q : Fl → St → Prop} (h : TA x E σ es fun vs σ₁ => vs.length = ts.length ∧ TAsgs x E ts vs σ₁ fun σ₂ => Q .next σ₂)
    (hs : ∀ env : Env, env.scope = x.sc → swapsWithSole [.Tuple ts k tp] (.Tuple es k' vp) p.line env = pure false) (hw : ∀ env : Env, env.scope = x.sc → swappedStores [.Tuple ts k tp] (.Tuple es k' vp) env = pure Option.none)
    (hl : ∀ env, (assignEach ts env).length = ts.length) (hi : ∀ env, (assignEach ts env).findIdx? (·.1) = Option.none) (hz : ts.length ≤ 1000) (hh0 : x.hx = false := by rfl) : TS x E σ (.Assign [.Tuple ts k tp] (.Tuple es k' vp) p) Q := fun f ρ e hh tk R Qc Ec hq hE => by
  have sc : f.ev.scope = x.sc := by rw [R.ok.sc, e]
  rw [exec_tup_none (fun env q => hs env (q.trans sc)) (fun env q => hw env (q.trans sc))]
  refine Run.standAt ?_ hh tk R Qc Ec hq hE
  rw [arm_eval_Tuple]
  refine Run.assoc (Run.standAt (Run.assoc ((h f ρ vp e).bind fun vs us σ₁ ρ₁ q₁ k₁ r₁ => ?_)))
  obtain ⟨hn, q₁⟩ := q₁
  have ez : us.length = ts.length := by rw [← r₁.length, hn]
  have e1 : (do let v ← newTuple us; assign (.Tuple ts k tp) f.ev v; pure Flow.next : Sem Flow) = (newTuple us >>= fun v => (do PySem.standAt tp; PySem.holding [v] (unpackItems v us.length Option.none) >>= fun l => assignInOrder ((assignEach ts f.ev).map (·.2)) l >>= fun _ => pure Flow.next)) := by
    congr 1
    funext v
    rw [arm_assign_Tuple]
    show (do PySem.standAt tp; unpack v (assignEach ts f.ev)) >>= _ = _
    unfold unpack
    rw [hi, hl, ez]
    simp only [bind_assoc]
  rw [e1]
  intro hh tk R Qc Ec hq hE
  refine wpAny_bind (wpAny_newTuple ?_ (by rw [ez]; exact Nat.le_trans hz (by decide)))
  refine wpAny_bind (wpAny_standAt (wpAny_bind (wpAny_holding ?_)))
  have hsz : us.length = us.toArray.size := by simp
  rw [hsz]
  have R' : Rel f ρ₁ σ₁ (hh.push { cls := .type "tuple", data := .seq us.toArray }) := R.keeps fun _ _ e => Heap.get?_push_of_some _ e
  refine unpackItems_tuple (R.ok.hand (by rw [e]; exact hh0)) ⟨_, Heap.get?_push_size _ rfl, rfl, 0, rfl⟩ fun h' he' => ?_
  exact ((q₁ f ρ₁ us e r₁).bind fun _ _ σ₂ ρ₂ q₂ k₂ _ => Run.pure (b := Fl.next) rfl q₂) h' tk (R'.keeps (extBut_size he')) Qc Ec hq hE

noncomputable def TNames (x : Sx) (E : Nat → St → Prop) (ns : List PySem.Str) (vs : List V) (σ : St) (Q : St → Prop) : Prop :=
  ∀ f ρ us, f.x = x → Rvs f.base ρ vs us → Run f Ru E ρ σ (assignInOrder (ns.map fun n => bindName f.ev n) us) fun (_ : Unit) => Q
theorem TNames.nil {Q : St → Prop} (h : Q σ) : TNames x E [] [] σ Q := fun f ρ us e r => by
  cases r
  exact Run.pure (b := ()) trivial h
theorem TNames.cons {n : PySem.Str} {ns : List PySem.Str} {v : V} {vs : List V} {Q : St → Prop} (h : TStore x E n v σ fun σ₁ => TNames x E ns vs σ₁ Q) : TNames x E (n :: ns) (v :: vs) σ Q := fun f ρ us e r => by
  cases r with
  | @cons _ u _ us r rs =>
  show Run f Ru E ρ σ (do PySem.holding us (bindName f.ev n u); assignInOrder (ns.map fun n => bindName f.ev n) us) _
  refine Run.bind (rv := Ru) (Run.holding (Q := fun (_ : Unit) σ₁ => TNames x E ns vs σ₁ Q) ?_) fun _ _ σ₁ ρ₁ q₁ k₁ _ => q₁ f ρ₁ us e (rs.mono fun _ _ => Rv.mono k₁)
  exact fun hh tk R Qc Ec hq he => wpAny_bindName ((h f ρ u e r) hh tk R Qc Ec hq he)
theorem TS.asgS {ts es : List Expr} {k k' : Nat} {tp vp p : Pos} {names : List PySem.Str} {Q : Fl → St → Prop} (h : TA x E σ es fun vs σ₁ => vs.length = names.length ∧ TNames x E names.reverse vs.reverse σ₁ fun σ₂ => Q .next σ₂)
    (hs : ∀ env : Env, env.scope = x.sc → swapsWithSole [.Tuple ts k tp] (.Tuple es k' vp) p.line env = pure false) (hw : ∀ env : Env, env.scope = x.sc → swappedStores [.Tuple ts k tp] (.Tuple es k' vp) env = pure (some names)) (hz : names.length ≤ 1000) (hh0 : x.hx = false := by rfl) :
    TS x E σ (.Assign [.Tuple ts k tp] (.Tuple es k' vp) p) Q := fun f ρ e hh tk R Qc Ec hq hE => by
  have sc : f.ev.scope = x.sc := by rw [R.ok.sc, e]
  rw [exec_tup_some (fun env q => hs env (q.trans sc)) (fun env q => hw env (q.trans sc))]
  refine Run.standAt ?_ hh tk R Qc Ec hq hE
  rw [arm_eval_Tuple]
  refine Run.assoc (Run.standAt (Run.assoc ((h f ρ vp e).bind fun vs us σ₁ ρ₁ q₁ k₁ r₁ => ?_)))
  obtain ⟨hn, q₁⟩ := q₁
  have ez : us.length = names.length := by rw [← r₁.length, hn]
  intro hh tk R Qc Ec hq hE
  refine wpAny_bind (wpAny_newTuple ?_ (by rw [ez]; exact Nat.le_trans hz (by decide)))
  refine wpAny_bind (wpAny_rule (wpAny_bind ?_))
  have hsz : names.length = us.toArray.size := by simp [ez]
  rw [hsz]
  have R' : Rel f ρ₁ σ₁ (hh.push { cls := .type "tuple", data := .seq us.toArray }) := R.keeps fun _ _ e => Heap.get?_push_of_some _ e
  refine unpackItems_tuple (R.ok.hand (by rw [e]; exact hh0)) ⟨_, Heap.get?_push_size _ rfl, rfl, 0, rfl⟩ fun h' he' => ?_
  exact ((q₁ f ρ₁ us.reverse e r₁.reverse).bind fun _ _ σ₂ ρ₂ q₂ k₂ _ => Run.pure (b := Fl.next) rfl q₂) h' tk (R'.keeps (extBut_size he')) Qc Ec hq hE

/-- one target -/
theorem TS.asg {t v : Expr} {p : Pos} {Q : Fl → St → Prop} (h : TE x E σ v fun u σ₁ => TAsg x E t u σ₁ fun σ₂ => Q .next σ₂) (hs : ∀ env : Env, env.scope = x.sc → swapsWithSole [t] v p.line env = pure false)
    (hw : ∀ env : Env, env.scope = x.sc → swappedStores [t] v env = pure Option.none) (ha : ∀ env, assignEach [t] env = [(false, assign t env)]) : TS x E σ (.Assign [t] v p) Q := fun f ρ e hh tk R Qc Ec hq hE => by
  have sc : f.ev.scope = x.sc := by rw [R.ok.sc, e]
  have e1 : exec (.Assign [t] v p) f.ev = (do PySem.standAt p; let u ← eval v f.ev; assign t f.ev u; pure .next) := by
    rw [PyProof.Rows.exec_Assign, hs _ sc, hw _ sc, ha]
    rfl
  rw [e1]
  refine Run.standAt ((h f ρ e).bind fun u ua σ₁ ρ₁ q₁ k₁ r₁ => ?_) hh tk R Qc Ec hq hE
  exact (q₁ f ρ₁ ua e r₁).bind fun _ _ σ₂ ρ₂ q₂ _ _ => Run.pure (b := Fl.next) rfl q₂

theorem TE.list {es : List Expr} {p : Pos} {Q : V → St → Prop} (h : TA x E σ es fun vs σ₁ => vs.length ≤ 1000 ∧ Q (.ref σ₁.H.length) ⟨σ₁.loc, σ₁.H ++ [.list vs]⟩) : TE x E σ (.List es p) Q := fun f ρ e => by
  rw [arm_eval_List]
  refine Run.standAt ((h f ρ p e).bind fun vs us σ₁ ρ₁ q₁ k₁ r₁ => ?_)
  intro hh tk R Qc Ec hq hE
  refine wpAny_newList ?_ (by rw [← r₁.length]; exact Nat.le_trans q₁.1 (by decide))
  exact hq _ _ _ _ _ tk q₁.2 ⟨[hh.objs.size], rfl⟩ (R.new (x := .list vs) ⟨us, 0, rfl, r₁, Nat.le_trans q₁.1 (by decide)⟩ rfl) ⟨hh.objs.size, R.get_new _, rfl⟩
theorem TE.tuple {es : List Expr} {k : Nat} {p : Pos} {Q : V → St → Prop} (h : TA x E σ es fun vs σ₁ => vs.length ≤ 1000 ∧ Q (.ref σ₁.H.length) ⟨σ₁.loc, σ₁.H ++ [.tuple vs]⟩) : TE x E σ (.Tuple es k p) Q := fun f ρ e => by
  rw [arm_eval_Tuple]
  refine Run.standAt ((h f ρ p e).bind fun vs us σ₁ ρ₁ q₁ k₁ r₁ => ?_)
  intro hh tk R Qc Ec hq hE
  refine wpAny_newTuple ?_ (by rw [← r₁.length]; exact Nat.le_trans q₁.1 (by decide))
  exact hq _ _ _ _ _ tk q₁.2 ⟨[hh.objs.size], rfl⟩ (R.new (x := .tuple vs) ⟨us, 0, rfl, r₁⟩ rfl) ⟨hh.objs.size, R.get_new _, rfl⟩

end
end
section
noncomputable abbrev allNews (f : Fx) (ρ : List Addr) (objs fo : List Obj) : List (Addr × Obj) := (f.os.map (·.1)).zip fo ++ (f.kp ++ ρ.zip objs)
section
variable {f : Fx} {ρ : List Addr} {σ : St} {h h' : Heap} {m : PySem.Str → Option Value} {objs fo : List Obj}
theorem RelW.same (W : RelW f ρ σ h m objs fo) (F : Fr f.base f.L h' m) (N : News f.base f.L h' (allNews f ρ objs fo)) : RelW f ρ σ h' m objs fo := { W with fr := F, news := N }
theorem RelW.zip1 (W : RelW f ρ σ h m objs fo) : ((f.os.map (·.1)).zip fo).map (·.1) = f.os.map (·.1) := by
  have := W.ns.length
  rw [List.map_fst_zip]
  simp at this ⊢
  (first | lia | omega)
theorem RelW.all1 (W : RelW f ρ σ h m objs fo) : (allNews f ρ objs fo).map (·.1) = f.os.map (·.1) ++ (f.kp.map (·.1) ++ ρ) := by
  simp only [allNews, List.map_append, W.zip1]
  rw [List.map_fst_zip (by rw [W.len]; exact Nat.le_refl _)]
theorem RelW.new1 (W : RelW f ρ σ h m objs fo) {D : Addr} {o : Obj} {x : O} (F : Fr f.base f.L h' m) (N : News f.base f.L h' ((D, o) :: allNews f ρ objs fo)) (l : ∀ p ∈ allNews f ρ objs fo, p.1 < D) (r : Ro f.w f.base ρ x o) :
    RelW f (ρ ++ [D]) ⟨σ.loc, σ.H ++ [x]⟩ h' m (objs ++ [o]) fo := by
  have z := N (D, o) (List.mem_cons_self ..)
  refine (W.same F fun p hp => N p (List.mem_cons_of_mem _ hp)).adopt (fun q => ?_) z.2.1 z.2.2 z.1 r
  rw [← W.all1] at q
  obtain ⟨p, hp, e⟩ := List.mem_map.mp q
  exact absurd (l p hp) (by rw [e]; exact Nat.lt_irrefl _)
theorem upd_mid {d : Addr} {o o' : Obj} : ∀ {pre post : List (Addr × Obj)}, (∀ p ∈ pre, p.1 ≠ d) → (∀ p ∈ post, p.1 ≠ d) → Upd d o o' (pre ++ (d, o) :: post) (pre ++ (d, o') :: post)
  | [], _, _, h2 => .head h2
  | p :: pre, _, h1, h2 => .tail (h1 p (List.mem_cons_self ..)) (upd_mid (fun q hq => h1 q (List.mem_cons_of_mem _ hq)) h2)
theorem zip_split {α β : Type} : ∀ {as : List α} {bs : List β} {i : Nat} {a : α} {b : β}, as.length = bs.length → as[i]? = some a → bs[i]? = some b → ∀ b', ∃ pre post, as.zip bs = pre ++ (a, b) :: post ∧ as.zip (bs.set i b') = pre ++ (a, b') :: post
  | [], _, _, _, _, _, h, _, _ => by simp at h
  | _ :: _, [], _, _, _, _, _, h, _ => by simp at h
  | x :: as, y :: bs, 0, a, b, hl, ha, hb, b' => by
    simp at ha hb; subst ha hb
    exact ⟨[], as.zip bs, rfl, rfl⟩
  | x :: as, y :: bs, i + 1, a, b, hl, ha, hb, b' => by
    simp at ha hb hl
    obtain ⟨pre, post, e1, e2⟩ := zip_split hl ha hb b'
    exact ⟨(x, y) :: pre, post, by simp [e1], by simp [e2]⟩
theorem RelW.upd (W : RelW f ρ σ h m objs fo) {i : Nat} {a : Addr} {o : Obj} (hi : ρ[i]? = some a) (ho : objs[i]? = some o) (o' : Obj) : Upd a o o' (allNews f ρ objs fo) (allNews f ρ (objs.set i o') fo) := by
  obtain ⟨pre, post, e1, e2⟩ := zip_split W.len hi ho o'
  have nd := W.nd
  rw [← W.all1] at nd
  have e : allNews f ρ objs fo = ((f.os.map (·.1)).zip fo ++ f.kp ++ pre) ++ (a, o) :: post := by simp [allNews, e1]
  have e' : allNews f ρ (objs.set i o') fo = ((f.os.map (·.1)).zip fo ++ f.kp ++ pre) ++ (a, o') :: post := by simp [allNews, e2]
  rw [e] at nd
  rw [e, e']
  simp only [List.map_append, List.map_cons] at nd
  rw [← List.map_append, ← List.map_append] at nd
  obtain ⟨n1, n2, n3⟩ := List.nodup_append.mp nd
  refine upd_mid (fun p hp q => n3 p.1 (List.mem_map_of_mem hp) a (List.mem_cons_self ..) q) fun p hp q => ?_
  exact (List.nodup_cons.mp n2).1 (by rw [← q]; exact List.mem_map_of_mem hp)
theorem RelW.set1 (W : RelW f ρ σ h m objs fo) {i : Nat} {o : Obj} {x : O} (F : Fr f.base f.L h' m) (N : News f.base f.L h' (allNews f ρ (objs.set i o) fo)) (r : Ro f.w f.base ρ x o) : RelW f ρ ⟨σ.loc, σ.H.set i x⟩ h' m (objs.set i o) fo :=
  ⟨W.ok, F, W.loc, N, W.ns, W.obj.set r, by simp [W.len], W.nd, W.cells⟩
inductive InstR (f : Fx) (ρ : List Addr) (h : Heap) (objs : List Obj) (i j C : Nat) (es : List (PySem.Str × V)) : Prop
  | mk (a d : Addr) (l : List DictEntry) (n : Nat) (h1 : ρ[i]? = some a) (h2 : ρ[j]? = some d) (h3 : objs[j]? = some (dictOf l n)) (h4 : All2 (Re f.w f.base ρ) es l) (h5 : InstAt h a (instObj C d) C (some (dictOf l n)))
theorem RelW.instAt (W : RelW f ρ σ h m objs fo) {i j C : Nat} {es : List (PySem.Str × V)} (hi : σ.H[i]? = some (.inst C j)) (hj : σ.H[j]? = some (.dict es)) :
    InstR f ρ h objs i j C es := by
  obtain ⟨a, o, h1, h2, h3, _, _, ⟨d, hd, e⟩⟩ := W.atObj hi
  obtain ⟨d', o', g1, g2, g3, _, _, ⟨l, n, e', r⟩⟩ := W.atObj hj
  rw [hd] at g1
  obtain rfl := Option.some.inj g1
  subst e e'
  exact ⟨a, d, l, n, h1, hd, g2, r, ⟨h3, rfl, rfl, g3⟩⟩
end

theorem getL_of {w : World} {B : Heap} {ρ : List Addr} {n : PySem.Str} {v : V} {es : List (PySem.Str × V)} {l : List DictEntry} (h : All2 (Re w B ρ) es l) : es.lookup n = some v → ∃ u, getL n l = some (some u) ∧ Rv B ρ v u := by
  induction h with
  | nil => intro e; cases e
  | @cons p b _ _ h r ih =>
    intro e
    obtain ⟨⟨t, hk⟩, _, hv⟩ := h
    obtain ⟨k, u⟩ := p
    simp only at hk hv
    simp only [List.lookup_cons] at e
    unfold getL
    rw [List.find?_cons]
    by_cases q : (n == k) = true
    · simp only [q] at e
      cases e
      have : b.key.isStr n = true := by rw [hk]; show (k == n) = true; rw [beq_iff_eq] at q ⊢; exact q.symm
      rw [this]
      exact ⟨_, rfl, hv⟩
    · have q' : (n == k) = false := by simpa using q
      simp only [q'] at e
      have : b.key.isStr n = false := by rw [hk]; show (k == n) = false; rw [beq_eq_false_iff_ne] at q' ⊢; exact q'.symm
      rw [this]
      obtain ⟨u', h1, h2⟩ := ih e
      refine ⟨u', ?_, h2⟩
      unfold getL at h1
      have hr : b.refKey = false := by unfold DictEntry.refKey; rw [hk]
      simp only [List.any_cons, hr, Bool.false_or]
      exact h1
theorem getL_none {w : World} {B : Heap} {ρ : List Addr} {n : PySem.Str} {es : List (PySem.Str × V)} {l : List DictEntry} (h : All2 (Re w B ρ) es l) : es.lookup n = Option.none → getL n l = some Option.none := by
  induction h with
  | nil => intro _; rfl
  | @cons p b _ _ h r ih =>
    intro e
    obtain ⟨⟨t, hk⟩, _, hv⟩ := h
    obtain ⟨k, u⟩ := p
    simp only at hk hv
    simp only [List.lookup_cons] at e
    by_cases q : (n == k) = true
    · simp only [q] at e; cases e
    · have q' : (n == k) = false := by simpa using q
      simp only [q'] at e
      have : b.key.isStr n = false := by rw [hk]; show (k == n) = false; rw [beq_eq_false_iff_ne] at q' ⊢; exact q'.symm
      have h1 := ih e
      unfold getL at h1 ⊢
      rw [List.find?_cons, this]
      have hr : b.refKey = false := by unfold DictEntry.refKey; rw [hk]
      simp only [List.any_cons, hr, Bool.false_or]
      exact h1

section
variable {x : Sx} {E : Nat → St → Prop} {σ : St}
noncomputable def TGet (x : Sx) (E : Nat → St → Prop) (n : PySem.Str) (a : V) (σ : St) (Q : V → St → Prop) : Prop := ∀ f ρ va, f.x = x → Rv f.base ρ a va → Run f Rv E ρ σ (getAttr va n true) Q
theorem TE.attr {n attr : PySem.Str} {np p : Pos} {Q : V → St → Prop} (h : TE x E σ (.Name n np) fun o σ₁ => TGet x E attr o σ₁ Q) : TE x E σ (.Attribute (.Name n np) attr p) Q := fun f ρ e hh tk R Qc Ec hq hE => by
  refine Attribute_name ((h f ρ e) hh tk R _ Ec ?_ hE)
  intro o o' σ₁ ρ₁ h₁ t₁ q₁ k₁ R₁ r₁
  exact (q₁ f ρ₁ o' e r₁) h₁ t₁ R₁ Qc Ec (fun b a σ₂ ρ₂ h₂ t₂ q₂ k₂ R₂ r₂ => hq b a σ₂ ρ₂ h₂ t₂ q₂ (k₁.trans k₂) R₂ r₂) (hE.mono k₁)
theorem handedIn_of {B : Heap} {ρ : List Addr} {v : V} {u : Value} (r : Rv B ρ v u) : handedIn u = true := by
  cases v <;> (simp only [Rv] at r) <;> (try subst r) <;> (try rfl) <;> (first | (obtain ⟨_, rfl⟩ := r; rfl) | (obtain ⟨_, _, rfl, _⟩ := r; rfl) | (obtain ⟨_, _, rfl⟩ := r; rfl))
/-- a field of an object -/
theorem TGet.field {n : PySem.Str} {i j C : Nat} {es : List (PySem.Str × V)} {v : V} {at_ : Option Value} {Q : V → St → Prop} (hi : σ.H[i]? = some (.inst C j)) (hj : σ.H[j]? = some (.dict es)) (hv : es.lookup n = some v) (h : Q v σ)
    (hg : ∀ P, plainGet (hd.heap_39 P) C n = true) (hh : ∀ P, hasDictIn (hd.heap_39 P) C = true) (ha : ∀ P, findIn (hd.heap_39 P) (.ref C) n = some at_) (hn : ∀ P, noGet (hd.heap_39 P) at_ = true) : TGet x E n (.ref i) σ Q := fun f ρ va e r hp tk R Qc Ec hq _ => by
  obtain ⟨m, objs, fo, W⟩ := id R
  obtain ⟨a, d, l, nn, h1, h2, h3, h4, I⟩ := W.instAt hi hj
  obtain ⟨a', ha', rfl⟩ := r
  rw [h1] at ha'
  obtain rfl := Option.some.inj ha'
  obtain ⟨u, hu, ru⟩ := getL_of h4 hv
  exact get_own (K := hd.heap_39 f.w.params) W.fr W.ok.ki I (hg _) (hh _) (ha _) (hn _) hu (handedIn_of ru) (hq v u σ ρ hp (tk + 1) h (List.prefix_refl _) R ru)

/-- a method of an object -/
theorem TE.meth {n name : PySem.Str} {np ap pos : Pos} {e : Expr} {r : List Expr} {i j C : Nat} {es : List (PySem.Str × V)} {fn : Addr} {Q : V → St → Prop} (ho : TE x E σ (.Name n np) fun o σ₁ => o = .ref i ∧ σ₁ = σ) (hi : σ.H[i]? = some (.inst C j)) (hj : σ.H[j]? = some (.dict es))
    (hv : es.lookup name = Option.none) (hg : ∀ P, plainGet (hd.heap_39 P) C name = true) (hf : ∀ P, findIn (hd.heap_39 P) (.ref C) name = some (some (.ref fn))) (ht : ∀ P, isFn (hd.heap_39 P) (.ref fn) = true) (hkeep : ∀ P, keepIn (hd.heap_39 P) (.ref fn) = true)
    (h : TA x E σ (e :: r) fun vs σ₁ => CallF x E fn (.ref i :: vs) σ₁ Q) (he : ∀ env, starEach (e :: r) env = (false, eval e env) :: starEach r env) (hplain : ∀ env pos, (backTo pos (starEach r env)).any (·.1) = false)
    (hm : ∀ env, eval (.Call (.Attribute (.Name n np) name ap) (e :: r) [] pos) env = (do
      let ov ← eval (.Name n np) env
      PySem.standAt ap.atName
      let (f, first) ← PySem.holding [ov] (getMethod ov name (do return (← importBound (.Name n np) env).getD true))
      callWith pos f first (backTo pos (starEach (e :: r) env)) (backToKw pos (keywordEach [] env)))) :
    TE x E σ (.Call (.Attribute (.Name n np) name ap) (e :: r) [] pos) Q := fun f ρ ex hh tk R Qc Ec hq hE => by
  rw [hm]
  refine wpAny_bind ((ho f ρ ex) hh tk R _ Ec ?_ hE)
  intro o o' σ₁ ρ₁ h₁ t₁ q₁ k₁ R₁ r₁
  obtain ⟨rfl, rfl⟩ := q₁
  obtain ⟨m, objs, fo, W⟩ := id R₁
  obtain ⟨a, d, l, nn, g1, g2, g3, g4, I⟩ := W.instAt hi hj
  obtain ⟨a', ha', rfl⟩ := r₁
  rw [g1] at ha'
  obtain rfl := Option.some.inj ha'
  refine wpAny_bind (wpAny_standAt (wpAny_bind (wpAny_holding ?_)))
  refine method_inst (K := hd.heap_39 f.w.params) W.fr W.ok.ki I (hg _) (hf _) (ht _) (getL_none g4 hv) ?_
  have KI : (hd.heap_39 f.w.params).In h₁ := W.ok.ki.keeps W.fr.keep
  refine callWith_K (K := hd.heap_39 f.w.params) KI (hkeep _) ((h f ρ₁ pos ex) h₁ t₁ R₁ _ Ec ?_ (hE.mono k₁)) (he _) (hplain _ _)
  intro vs us σ₂ ρ₂ h₂ t₂ q₂ k₂ R₂ r₂
  have ra : Rv f.base ρ₂ (.ref i) (.ref a) := ⟨a, pre_get k₂ g1, rfl⟩
  exact ⟨R₂.ok.ki.keeps R₂.stays, (q₂ f ρ₂ (.ref a :: us) ex (.cons ra r₂)) h₂ t₂ R₂ Qc Ec (fun b a σ' ρ' h' t' q k R' r => hq b a σ' ρ' h' t' q (k₁.trans (k₂.trans k)) R' r) (hE.mono (k₁.trans k₂))⟩

/-- items -/
noncomputable def TItem (x : Sx) (E : Nat → St → Prop) (value slice : Expr) (o i : V) (σ : St) (Q : V → St → Prop) : Prop := ∀ f ρ vo vi, f.x = x → Rv f.base ρ o vo → Rv f.base ρ i vi → Run f Rv E ρ σ (subscriptTail value slice vo vi) Q
theorem TE.sub {value slice : Expr} {p : Pos} {Q : V → St → Prop} (h : TE x E σ value fun o σ₁ => TE x E σ₁ slice fun i σ₂ => TItem x E value slice o i σ₂ Q) : TE x E σ (.Subscript value slice p) Q := fun f ρ e hh tk R Qc Ec hq hE => by
  refine Subscript_ ((h f ρ e) hh tk R _ Ec ?_ hE)
  intro o o' σ₁ ρ₁ h₁ t₁ q₁ k₁ R₁ r₁
  refine (q₁ f ρ₁ e) h₁ t₁ R₁ _ Ec ?_ (hE.mono k₁)
  intro i i' σ₂ ρ₂ h₂ t₂ q₂ k₂ R₂ r₂
  exact (q₂ f ρ₂ o' i' e (r₁.mono k₂) r₂) h₂ t₂ R₂ Qc Ec (fun b a σ' ρ' h' t' q k R' r => hq b a σ' ρ' h' t' q (k₁.trans (k₂.trans k)) R' r) (hE.mono (k₁.trans k₂))
inductive ListR (f : Fx) (ρ : List Addr) (h : Heap) (objs : List Obj) (i : Nat) (vs : List V) (va : Value) : Prop
  | mk (a : Addr) (l : List Value) (n : Nat) (h1 : va = .ref a) (h2 : ρ[i]? = some a) (h3 : objs[i]? = some (listOf l.toArray n)) (h4 : n = n) (h5 : h.IsList a l.toArray) (h6 : All2 (Rv f.base ρ) vs l) (h7 : l.length ≤ 2 ^ 20) (h8 : h.get? a = some (listOf l.toArray n))
theorem RelW.isList {f : Fx} {ρ : List Addr} {h : Heap} {m : PySem.Str → Option Value} {objs fo : List Obj} (W : RelW f ρ σ h m objs fo) {i : Nat} {vs : List V} {va : Value} (hi : σ.H[i]? = some (.list vs)) (r : Rv f.base ρ (.ref i) va) :
    ListR f ρ h objs i vs va := by
  obtain ⟨a, o, h1, h2, h3, _, _, ⟨l, n, e, r', z⟩⟩ := W.atObj hi
  obtain ⟨a', ha', rfl⟩ := r
  rw [h1] at ha'
  obtain rfl := Option.some.inj ha'
  subst e
  exact ⟨a, l, n, rfl, h1, h2, rfl, ⟨_, h3, rfl, n, rfl⟩, r', by rw [← r'.length]; exact z, h3⟩
theorem TItem.list {value slice : Expr} {i : Nat} {k : Int} {vs : List V} {v : V} {Q : V → St → Prop} (hi : σ.H[i]? = some (.list vs)) (h0 : 0 ≤ k) (hv : vs[k.toNat]? = some v) (h : Q v σ)
    (hs : ∀ a t, subscripted slice false (.ref a) (.int k t) = operate [.ref a, .int k t] (getItem (.ref a) (.int k t))) : TItem x E value slice (.ref i) (.int k) σ Q := fun f ρ vo vi e ro ⟨t, ei⟩ hh tk R Qc Ec hq _ => by
  subst ei
  obtain ⟨m, objs, fo, W⟩ := id R
  obtain ⟨a, l, n, rfl, h1, h2, _, hl, r, z, _⟩ := W.isList hi ro
  obtain ⟨u, hu, ru⟩ := r.get hv
  have hlt : k.toNat < l.length := (List.getElem?_eq_some_iff.mp hu).1
  refine tail_any hl.typeIs slot_list_getitem.lookup (wpAny_getItem_list hl h0 (by (first | lia | omega)) (by simpa using hu) (hq v u σ ρ hh tk h (List.prefix_refl _) R ru)) (hs _ _)
theorem TItem.tuple {value slice : Expr} {i : Nat} {k : Int} {vs : List V} {v : V} {Q : V → St → Prop} (hi : σ.H[i]? = some (.tuple vs)) (h0 : 0 ≤ k) (h1 : k < 1000) (hv : vs[k.toNat]? = some v) (h : Q v σ)
    (hs : ∀ a t, subscripted slice false (.ref a) (.int k t) = operate [.ref a, .int k t] (getItem (.ref a) (.int k t))) : TItem x E value slice (.ref i) (.int k) σ Q := fun f ρ vo vi e ro ⟨t, ei⟩ hh tk R Qc Ec hq _ => by
  subst ei
  obtain ⟨a, o, g1, g2, ⟨l, n, eo, r⟩⟩ := R.atObj hi
  obtain ⟨a', ha', rfl⟩ := ro
  rw [g1] at ha'
  obtain rfl := Option.some.inj ha'
  subst eo
  obtain ⟨u, hu, ru⟩ := r.get hv
  have hlt : k.toNat < l.length := (List.getElem?_eq_some_iff.mp hu).1
  refine item_tupleT (j := k.toNat) ⟨_, g2, rfl, n, rfl⟩ (by (first | lia | omega)) (by (first | lia | omega)) ?_ hu (hq v u σ ρ hh tk h (List.prefix_refl _) R ru) (hs _ _)
  unfold seqIndex?
  have : ¬ k < 0 := by (first | lia | omega)
  simp [this]
  (first | lia | omega)
theorem TItem.bytes {value slice : Expr} {xs : List Int} {k : Int} {v : Int} {Q : V → St → Prop} (h0 : 0 ≤ k) (hv : xs[k.toNat]? = some v) (h : Q (.int v) σ)
    (hs : ∀ (b : Array UInt8) t u, subscripted slice false (.bytes b t) (.int k u) = operate [.bytes b t, .int k u] (getItem (.bytes b t) (.int k u))) : TItem x E value slice (.bytes xs) (.int k) σ Q := fun f ρ vo vi e ⟨b, tb, eb, eb2, z⟩ ⟨t, ei⟩ hh tk R Qc Ec hq _ => by
  subst ei eb
  have hx : b.toList[k.toNat]? = some (b.toList.getD k.toNat 0) := by
    rw [← eb2] at hv
    rw [List.getElem?_map] at hv
    cases q : b.toList[k.toNat]? with
    | none => rw [q] at hv; cases hv
    | some c => simp [List.getD_eq_getElem?_getD, q]
  have hlt := (List.getElem?_eq_some_iff.mp hx).1
  have ev : ((b.toList.getD k.toNat 0).toNat : Int) = v := by
    rw [← eb2, List.getElem?_map, hx] at hv
    exact Option.some.inj hv
  have hb : b = b.toList.toArray := by simp
  refine tail_any (T := "bytes") (typeIs_bytes _ b tb) FB.slot_bytes_getitem.lookup ?_ (hs _ _ _)
  rw [hb]
  refine getItem_bytes ?_ h0 (by (first | lia | omega)) (hq (.int v) _ σ ρ hh (tk + 1) h (List.prefix_refl _) R ⟨_, by rw [← ev]⟩)
  simp
  (first | lia | omega)
end
end
section
noncomputable def Rp (_ : Heap) (_ : List Addr) (k : Option Int) (v : Value) : Prop := IsPart v k
noncomputable def TOpt (x : Sx) (E : Nat → St → Prop) (σ : St) (e : Option Expr) (Q : Option Int → St → Prop) : Prop := ∀ f ρ, f.x = x → Run f Rp E ρ σ (valueOrNone (evalOpt e f.ev)) Q
/-- a cut of a list, a tuple or bytes -/
noncomputable def TCut (x : Sx) (E : Nat → St → Prop) (value slice : Expr) (o : V) (l u : Option Int) (σ : St) (Q : V → St → Prop) : Prop :=
  ∀ f ρ vo vl vu, f.x = x → Rv f.base ρ o vo → IsPart vl l → IsPart vu u → ∀ h tk, Rel f ρ σ h → ∀ (Qc : Value → Shared → Prop) (Ec : Value → Shared → Prop),
    (∀ b a σ' ρ' h' t', Q b σ' → ρ <+: ρ' → Rel f ρ' σ' h' → Rv f.base ρ' b a → Qc a (f.st h' t')) → EP f ρ E Ec →
    wpAny (model PG f.w) f.A (subscriptTail value slice vo (.ref h.objs.size)) Qc Ec (f.st (h.push { cls := .type "slice", data := .fields #[vl, vu, .none] }) tk)
section
variable {x : Sx} {E : Nat → St → Prop} {σ : St}
theorem TOpt.none {Q : Option Int → St → Prop} (h : Q Option.none σ) : TOpt x E σ Option.none Q := fun _ _ _ => Run.pure (b := Option.none) .none h
theorem TOpt.some {e : Expr} {Q : Option Int → St → Prop} (h : TE x E σ e fun v σ₁ => match v with | .int k => Q (some k) σ₁ | _ => False) : TOpt x E σ (some e) Q := fun f ρ ex hh tk R Qc Ec hq hE => by
  refine (h f ρ ex) hh tk R Qc Ec ?_ hE
  intro v v' σ₁ ρ₁ h₁ t₁ q₁ k₁ R₁ r₁
  cases v <;> try exact q₁.elim
  obtain ⟨t, rfl⟩ := r₁
  exact hq _ _ σ₁ ρ₁ h₁ t₁ q₁ k₁ R₁ (.int _ t)
theorem TE.cut {value : Expr} {lo hi : Option Expr} {sp p : Pos} {Q : V → St → Prop} (h : TE x E σ value fun o σ₁ => TOpt x E σ₁ lo fun l σ₂ => TOpt x E σ₂ hi fun u σ₃ => TCut x E value (.Slice lo hi Option.none sp) o l u σ₃ Q) :
    TE x E σ (.Subscript value (.Slice lo hi Option.none sp) p) Q := fun f ρ e hh tk R Qc Ec hq hE => by
  refine Subscript_ ((h f ρ e) hh tk R _ Ec ?_ hE)
  intro o o' σ₁ ρ₁ h₁ t₁ q₁ k₁ R₁ r₁
  rw [arm_eval_Slice]
  refine wpAny_bind ((q₁ f ρ₁ e) h₁ t₁ R₁ _ Ec ?_ (hE.mono k₁))
  intro l l' σ₂ ρ₂ h₂ t₂ q₂ k₂ R₂ r₂
  refine wpAny_bind (wpAny_holding ((q₂ f ρ₂ e) h₂ t₂ R₂ _ Ec ?_ (hE.mono (k₁.trans k₂))))
  intro u u' σ₃ ρ₃ h₃ t₃ q₃ k₃ R₃ r₃
  refine wpAny_bind (wpAny_holding (wpAny_pure ?_))
  unfold newFields
  refine wpAny_newObj_type ?_ (by show ([l', u', Value.none].toArray.size ≤ sizeLine + 2); rw [sizeLine_eq]; simp)
  exact (q₃ f ρ₃ o' l' u' e (r₁.mono (k₂.trans k₃)) (r₂) r₃) h₃ t₃ R₃ Qc Ec (fun b a σ' ρ' h' t' q k R' r => hq b a σ' ρ' h' t' q (k₁.trans (k₂.trans (k₃.trans k))) R' r) (hE.mono (k₁.trans (k₂.trans k₃)))
theorem pick_length (vs : List Value) (l u : Option Int) : (kms_pick vs l u).length ≤ vs.length := by
  unfold kms_pick
  rw [List.length_take, List.length_drop]
  (first | lia | omega)
noncomputable def pickV (vs : List V) (l u : Option Int) : List V := (vs.drop (kms_lo l vs.length)).take (kms_hi u vs.length - kms_lo l vs.length)
noncomputable def pickZ (vs : List Int) (l u : Option Int) : List Int := (vs.drop (kms_lo l vs.length)).take (kms_hi u vs.length - kms_lo l vs.length)
theorem TCut.list {value slice : Expr} {i : Nat} {vs : List V} {l u : Option Int} {Q : V → St → Prop} (hi : σ.H[i]? = some (.list vs)) (h : Q (.ref σ.H.length) ⟨σ.loc, σ.H ++ [.list (pickV vs l u)]⟩)
    (hs : ∀ a b, subscripted slice false (.ref a) (.ref b) = operate [.ref b, .ref a] (getItem (.ref a) (.ref b))) (ht : ∀ a r, letTemporaryGo value (.ref a) r = pure ()) : TCut x E value slice (.ref i) l u σ Q := fun f ρ vo vl vu e ro pl pu hh tk R Qc Ec hq _ => by
  obtain ⟨m, objs, fo, W⟩ := id R
  obtain ⟨a, its, n, rfl, h1, h2, _, hl, r, z, _⟩ := W.isList hi ro
  refine kms_slice_lit (its := its.toArray) (s := f.st hh tk) W.fr W.news hl pl pu rfl (fun D h' F' N' l1 => ?_) (hs _ _) (ht _) (by rw [List.size_toArray, sizeLine_eq]; (first | lia | omega))
  have hr : All2 (Rv f.base ρ) (pickV vs l u) (kms_pick its l u) := by
    unfold pickV kms_pick
    rw [r.length]
    exact (r.drop _).take _
  refine hq _ _ _ (ρ ++ [D]) h' tk h ⟨[D], rfl⟩ ⟨_, _, _, W.new1 F' N' l1 (x := .list (pickV vs l u)) ⟨_, 0, rfl, hr, ?_⟩⟩ ⟨D, R.get_new D, rfl⟩
  rw [hr.length]
  exact Nat.le_trans (pick_length _ _ _) (by (first | lia | omega))
theorem TCut.gl {value slice : Expr} {xs : List Int} {l u : Option Int} {Q : V → St → Prop} (hz : xs.length ≤ 1000) (h : Q (.ref σ.H.length) ⟨σ.loc, σ.H ++ [.list ((pickZ xs l u).map V.int)]⟩)
    (hs : ∀ a b, subscripted slice false (.ref a) (.ref b) = operate [.ref b, .ref a] (getItem (.ref a) (.ref b))) (ht : ∀ a r, letTemporaryGo value (.ref a) r = pure ()) : TCut x E value slice (.gl xs) l u σ Q := fun f ρ vo vl vu e ro pl pu hh tk R Qc Ec hq _ => by
  obtain ⟨m, objs, fo, W⟩ := id R
  obtain ⟨a, vs, rfl, hl, hI⟩ := ro
  have hlen := hI.length
  have hl' : hh.IsList a vs.toArray := let ⟨o, ho, r⟩ := hl; ⟨o, W.fr.keep _ _ ho, r⟩
  refine kms_slice_lit (its := vs.toArray) (s := f.st hh tk) W.fr W.news hl' pl pu rfl (fun D h' F' N' l1 => ?_) (hs _ _) (ht _) (by rw [List.size_toArray, sizeLine_eq]; (first | lia | omega))
  have hint : ∀ {us : List Value} {ns : List Int}, IntsAre us ns → All2 (Rv f.base ρ) (ns.map V.int) us := by
    intro us ns hI
    induction hI with
    | nil => exact .nil
    | cons _ _ _ ih => exact .cons ⟨_, rfl⟩ ih
  have hr : All2 (Rv f.base ρ) ((pickZ xs l u).map V.int) (kms_pick vs l u) := by
    unfold pickZ kms_pick
    rw [← hlen, List.map_take, List.map_drop]
    exact ((hint hI).drop _).take _
  refine hq _ _ _ (ρ ++ [D]) h' tk h ⟨[D], rfl⟩ ⟨_, _, _, W.new1 F' N' l1 (x := .list ((pickZ xs l u).map V.int)) ⟨_, 0, rfl, hr, ?_⟩⟩ ⟨D, R.get_new D, rfl⟩
  rw [hr.length]
  exact Nat.le_trans (pick_length _ _ _) (by (first | lia | omega))
theorem TCut.bytes {value slice : Expr} {xs : List Int} {l u : Option Int} {Q : V → St → Prop} (h : Q (.bytes ((xs.drop (l.elim 0 (clipAt xs.length))).take (u.elim xs.length (clipAt xs.length) - l.elim 0 (clipAt xs.length)))) σ)
    (hs : ∀ (b : Array UInt8) t a, subscripted slice false (.bytes b t) (.ref a) = operate [.ref a, .bytes b t] (getItem (.bytes b t) (.ref a))) (ht : ∀ (b : Array UInt8) t r, letTemporaryGo value (.bytes b t) r = pure ()) : TCut x E value slice (.bytes xs) l u σ Q :=
  fun f ρ vo vl vu e ⟨b, tb, eb, eb2, z⟩ pl pu hh tk R Qc Ec hq _ => by
  subst eb
  obtain ⟨m, objs, fo, W⟩ := id R
  have hk : KBw.bInts b = xs := eb2
  have hlen : xs.length = b.size := by rw [← hk, KBw.ints_length]
  refine PySem.W.KBc.slice_K (s := f.st hh tk) W.fr W.news hk pl pu (by rw [hlen]; exact Nat.le_trans z (by decide)) (fun h' t' k F' N' he => ?_) (hs _ _ _) (ht _ _)
  exact hq (.bytes _) _ σ ρ h' k h (List.prefix_refl _) ⟨_, _, _, W.same F' N'⟩ ⟨_, _, rfl, he, Nat.le_trans (KBc.size_picked_le b l u) z⟩

/-- dicts by written strings -/
theorem valueAt_of {B : Heap} {ρ : List Addr} {n : PySem.Str} {v : V} {es : List (PySem.Str × V)} {kvs : List (PySem.Str × Value)} (h : All2 (Rk B ρ) es kvs) : es.lookup n = some v → ∃ u, valueAt kvs n = some u ∧ Rv B ρ v u := by
  induction h with
  | nil => intro e; cases e
  | @cons p b _ _ h r ih =>
    intro e
    obtain ⟨h1, h2⟩ := h
    obtain ⟨k, u⟩ := p
    obtain ⟨k', u'⟩ := b
    simp only at h1 h2
    subst h1
    simp only [List.lookup_cons] at e
    unfold valueAt
    rw [List.find?_cons]
    by_cases q : (n == k) = true
    · simp only [q] at e
      cases e
      have : k = n := (beq_iff_eq.mp q).symm
      simp only [this, decide_true]
      exact ⟨_, rfl, h2⟩
    · have q' : (n == k) = false := by simpa using q
      simp only [q'] at e
      have : ¬ k = n := fun z => by rw [z] at q'; simp at q'
      simp only [this, decide_false]
      exact ih e
noncomputable def putV (es : List (PySem.Str × V)) (n : PySem.Str) (v : V) : List (PySem.Str × V) := if es.any (fun kv => kv.1 = n) then es.map (fun kv => if kv.1 = n then (kv.1, v) else kv) else es ++ [(n, v)]
theorem all2_any {B : Heap} {ρ : List Addr} {n : PySem.Str} {es : List (PySem.Str × V)} {kvs : List (PySem.Str × Value)} (h : All2 (Rk B ρ) es kvs) : es.any (fun kv => kv.1 = n) = kvs.any (fun kv => kv.1 = n) := by
  induction h with
  | nil => rfl
  | cons h _ ih => rw [List.any_cons, List.any_cons, h.1, ih]
theorem all2_putmap {B : Heap} {ρ : List Addr} {n : PySem.Str} {v : V} {u : Value} (r : Rv B ρ v u) {es : List (PySem.Str × V)} {kvs : List (PySem.Str × Value)} (h : All2 (Rk B ρ) es kvs) :
    All2 (Rk B ρ) (es.map (fun kv => if kv.1 = n then (kv.1, v) else kv)) (kvs.map (fun kv => if kv.1 = n then (kv.1, u) else kv)) := by
  induction h with
  | nil => exact .nil
  | @cons p q _ _ h t ih =>
    rw [List.map_cons, List.map_cons]
    refine .cons ?_ ih
    rw [← h.1]
    by_cases z : p.1 = n
    · rw [if_pos z, if_pos z]; exact ⟨rfl, r⟩
    · rw [if_neg z, if_neg z]; exact h
theorem all2_stored {B : Heap} {ρ : List Addr} {n : PySem.Str} {v : V} {u : Value} (r : Rv B ρ v u) {es : List (PySem.Str × V)} {kvs : List (PySem.Str × Value)} (h : All2 (Rk B ρ) es kvs) : All2 (Rk B ρ) (putV es n v) (stored kvs n u) := by
  unfold putV stored
  rw [all2_any h]
  cases z : kvs.any (fun kv => decide (kv.1 = n)) with
  | true => simp only [if_true]; exact all2_putmap r h
  | false => simp only [Bool.false_eq_true, if_false]; exact h.append (.cons ⟨rfl, r⟩ .nil)
theorem dictOf_obj {w : World} {h : Heap} {d : Addr} {kvs : List (PySem.Str × Value)} (x : h.DictOf (strKind PG w) d kvs) : ∃ o, h.get? d = some o ∧ ObjDict w o kvs := by
  obtain ⟨o, es, ep, h1, h2, h3, h4, h5, h6⟩ := x
  exact ⟨o, h1, es, ep, h2, h3, h4, h5, h6⟩
theorem obj_dictOf {w : World} {h : Heap} {d : Addr} {o : Obj} {kvs : List (PySem.Str × Value)} (ho : h.get? d = some o) (x : ObjDict w o kvs) : h.DictOf (strKind PG w) d kvs := by
  obtain ⟨es, ep, h2, h3, h4, h5, h6⟩ := x
  exact ⟨o, es, ep, ho, h2, h3, h4, h5, h6⟩
inductive MapR (f : Fx) (ρ : List Addr) (h : Heap) (i : Nat) (es : List (PySem.Str × V)) (va : Value) : Prop
  | mk (a : Addr) (kvs : List (PySem.Str × Value)) (h1 : va = .ref a) (h2 : ρ[i]? = some a) (h3 : h.DictOf (strKind PG f.w) a kvs) (h4 : All2 (Rk f.base ρ) es kvs) (h5 : es.length ≤ 1000)
theorem RelW.isMap {f : Fx} {ρ : List Addr} {h : Heap} {m : PySem.Str → Option Value} {objs fo : List Obj} (W : RelW f ρ σ h m objs fo) {i : Nat} {es : List (PySem.Str × V)} {va : Value} (hi : σ.H[i]? = some (.map es)) (r : Rv f.base ρ (.ref i) va) :
    MapR f ρ h i es va := by
  obtain ⟨a, o, h1, h2, h3, _, _, ⟨kvs, e, r', z⟩⟩ := W.atObj hi
  obtain ⟨a', ha', rfl⟩ := r
  rw [h1] at ha'
  obtain rfl := Option.some.inj ha'
  exact ⟨a, kvs, rfl, h1, obj_dictOf h3 e, r', z⟩
theorem TItem.map {value slice : Expr} {i : Nat} {n : PySem.Str} {es : List (PySem.Str × V)} {v : V} {Q : V → St → Prop} (hi : σ.H[i]? = some (.map es)) (hv : es.lookup n = some v) (h : Q v σ)
    (hs : ∀ a t, subscripted slice false (.ref a) (.str n t) = operate [.ref a, .str n t] (getItem (.ref a) (.str n t))) : TItem x E value slice (.ref i) (.str n) σ Q := fun f ρ vo vi e ro ⟨t, ei⟩ hh tk R Qc Ec hq _ => by
  subst ei
  obtain ⟨m, objs, fo, W⟩ := id R
  obtain ⟨a, kvs, rfl, h1, hd, r, z⟩ := W.isMap hi ro
  obtain ⟨u, hu, ru⟩ := valueAt_of r hv
  have hm := hd.mapOf
  refine tail_any hm.typeIs slot_dict_getitem.lookup (wpAny_getItem_of (strKind_is PG f.w n t) hm hu (hq v u σ ρ hh (tk + 1) h (List.prefix_refl _) R ru)) (hs _ _)
noncomputable def TSet (x : Sx) (E : Nat → St → Prop) (o i v : V) (σ : St) (Q : St → Prop) : Prop := ∀ f ρ vo vi vv, f.x = x → Rv f.base ρ o vo → Rv f.base ρ i vi → Rv f.base ρ v vv → Run f Ru E ρ σ (setItem vo vi vv) fun (_ : Unit) => Q
theorem TSet.map {i : Nat} {n : PySem.Str} {es : List (PySem.Str × V)} {v : V} {Q : St → Prop} (hi : σ.H[i]? = some (.map es)) (hz : (putV es n v).length ≤ 1000) (h : Q ⟨σ.loc, σ.H.set i (.map (putV es n v))⟩) : TSet x E (.ref i) (.str n) v σ Q := fun f ρ vo vi vv e ro ⟨t, ei⟩ rv hh tk R Qc Ec hq _ => by
  subst ei
  obtain ⟨m, objs, fo, W⟩ := id R
  obtain ⟨a, kvs, rfl, h1, hd, r, z⟩ := W.isMap hi ro
  refine wpAny_setItem_pairs (strKind_is PG f.w n t) hd (fun h' hd' hs => ?_) (by rw [← r.length]; exact Nat.le_trans z (by decide))
  obtain ⟨o, ho, hob⟩ := dictOf_obj hd'
  exact hq () () _ ρ h' (tk + 1) h (List.prefix_refl _) ⟨_, _, _, W.update h1 hs ho (x := .map (putV es n v)) ⟨_, hob, all2_stored rv r, hz⟩⟩ trivial
theorem mapSeq_listOf (g : Array Value → Array Value) (its : Array Value) (n : Nat) (hz : (g its).size = its.size) : Obj.mapSeq g (listOf its n) = listOf (g its) n := by
  simp [Obj.mapSeq, hz]
theorem TSet.last {i : Nat} {vs : List V} {v : V} {Q : St → Prop} (hi : σ.H[i]? = some (.list vs)) (hk : 0 < vs.length) (h : Q ⟨σ.loc, σ.H.set i (.list (vs.set (vs.length - 1) v))⟩) : TSet x E (.ref i) (.int (-1)) v σ Q := fun f ρ vo vi vv e ro ⟨t, ei⟩ rv hh tk R Qc Ec hq _ => by
  subst ei
  obtain ⟨m, objs, fo, W⟩ := id R
  obtain ⟨a, l, n, rfl, h1, h2, _, hl, r, z, hg⟩ := W.isList hi ro
  have hlen := r.length
  have hlt : l.length - 1 < l.length := by (first | lia | omega)
  unfold setItem
  try with_reducible refine wpAny_holding ?_
  first | refine wpAny_bind (wpAny_pure ?_) | skip
  refine wpAny_bind (wpAny_sequenceKey hl.typeIs (by decide) ?_)
  refine wpAny_bind (wpAny_callSpecial?_slot (name := PySem.Str.ofString "__setitem__") hl.typeIs slot_list_setitem
    (wpAny_call_entry slot_list_setitem hl.typeIs entry_list_setitem ?_ (args_list_setitem _ _ _)))
  show wpAny _ _ (Builtin.List.listSubscript? (.int (-1) t) >>= _) _ _ _
  refine wpAny_bind (wpAny_listSubscript_int (fitsIndex_neg (by decide) (by decide)) ?_)
  have hidx : seqIndex? (Int.negSucc 0) l.toArray.size = some (l.length - 1) := by
    rw [show Int.negSucc 0 = -1 from rfl, seqIndex_neg (by decide) (by simp; (first | lia | omega))]
    simp
    (first | lia | omega)
  show wpAny _ _ ((Builtin.List.listItems (.ref a) >>= fun xs => pure ((seqIndex? (Int.negSucc 0) xs.size).bind fun i => xs[i]?.map (i, ·))) >>= _) _ _ _
  refine wpAny_bind (wpAny_bind ?_)
  show wpAny _ _ (seqItems? (.ref a) >>= _) _ _ _
  refine wpAny_bind (wpAny_seqItems hg rfl (wpAny_pure (wpAny_pure ?_)))
  rw [hidx]
  have hx : l.toArray[l.length - 1]? = some l[l.length - 1] := by simp [hlt]
  simp only [Option.bind_some, hx, Option.map_some]
  refine wpAny_bind (wpAny_setSeqItemAt hg rfl ?_)
  refine wpAny_pure ⟨.none, rfl, wpAny_pure ?_⟩
  have e1 : (listOf l.toArray n : Obj).mapSeq (·.setIfInBounds (l.length - 1) vv) = listOf (l.set (l.length - 1) vv).toArray n := by
    rw [mapSeq_listOf _ _ _ (by simp)]
    simp [List.setIfInBounds_toArray]
  have hn : (hh.update a (Obj.mapSeq (·.setIfInBounds (l.length - 1) vv))).get? a = some (listOf (l.set (l.length - 1) vv).toArray n) := by
    rw [Heap.get?_update_self _ hg (by rw [e1]; rfl), e1]
  refine hq () () _ ρ _ tk h (List.prefix_refl _) ⟨_, _, _, W.update h1 (Heap.SameBut.update ..) hn (x := .list (vs.set (vs.length - 1) v)) ⟨_, n, rfl, ?_, ?_⟩⟩ trivial
  · rw [hlen]; exact r.set rv
  · rw [List.length_set, hlen]; exact z
theorem TAsg.sub {oe ie : Expr} {p : Pos} {v : V} {Q : St → Prop} (h : TE x E σ oe fun o σ₁ => TE x E σ₁ ie fun i σ₂ => TSet x E o i v σ₂ Q) : TAsg x E (.Subscript oe ie p) v σ Q := fun f ρ va e r => by
  rw [arm_assign_Subscript]
  refine Run.bind (Run.holding (h f ρ e)) fun o o' σ₁ ρ₁ q₁ k₁ r₁ => Run.bind (Run.holding (q₁ f ρ₁ e)) fun i i' σ₂ ρ₂ q₂ k₂ r₂ => Run.standAt ?_
  refine Run.bind (Run.holding (q₂ f ρ₂ o' i' va e (r₁.mono k₂) r₂ (r.mono (k₁.trans k₂)))) fun _ _ σ₃ ρ₃ q₃ k₃ _ => ?_
  intro hh tk R Qc Ec hq hE Γ pp hΓ
  rw [Sem.wp_release]
  exact hq () () σ₃ ρ₃ hh tk q₃ (List.prefix_refl _) R trivial
end
end
section
theorem ints_of {B : Heap} {ρ : List Addr} {ns : List Int} {l : List Value} (h : All2 (Rv B ρ) (ns.map V.int) l) : IntsAre l ns := by
  induction ns generalizing l with
  | nil => cases h; exact .nil
  | cons n ns ih =>
    cases h with
    | cons h r => obtain ⟨t, rfl⟩ := h; exact .cons _ _ (ih r)
section
variable {x : Sx} {E : Nat → St → Prop} {σ : St}
/-- a call of a built-in's method on a list -/
theorem TE.methB {o : Expr} {name : PySem.Str} {id : String} {ap pos : Pos} {e : Expr} {r : List Expr} {Q : V → St → Prop} (slot : Slot "list" name id) (hty : typeOf (.builtin id) = pure (.type "method_descriptor"))
    (h : TE x E σ o fun ov σ₁ => match ov with | .ref i => (match σ₁.H[i]? with | some (.list _) => TA x E σ₁ (e :: r) fun us σ₂ => CallB x E (.builtin id) (.ref i :: us) σ₂ Q | _ => False) | _ => False)
    (he : ∀ env, starEach (e :: r) env = (false, eval e env) :: starEach r env) (hplain : ∀ env pos, (backTo pos (starEach r env)).any (·.1) = false)
    (hm : ∀ env, eval (.Call (.Attribute o name ap) (e :: r) [] pos) env = (do
      let ov ← eval o env
      PySem.standAt ap.atName
      let (f, first) ← PySem.holding [ov] (getMethod ov name (do return (← importBound o env).getD true))
      callWith pos f first (backTo pos (starEach (e :: r) env)) (backToKw pos (keywordEach [] env)))) :
    TE x E σ (.Call (.Attribute o name ap) (e :: r) [] pos) Q := fun f ρ ex hh tk R Qc Ec hq hE => by
  rw [hm]
  refine wpAny_bind ((h f ρ ex) hh tk R _ Ec ?_ hE)
  intro ov ov' σ₁ ρ₁ h₁ t₁ q₁ k₁ R₁ r₁
  cases ov <;> try exact q₁.elim
  rename_i i
  simp only at q₁
  cases hi : σ₁.H[i]? with
  | none => rw [hi] at q₁; exact q₁.elim
  | some O =>
  rw [hi] at q₁
  cases O <;> try exact q₁.elim
  rename_i vs
  simp only at q₁
  have R₁' := R₁
  obtain ⟨m, objs, fo, W⟩ := R₁'
  obtain ⟨a, l, n, rfl, g1, g2, _, hl, rr, z, hg⟩ := W.isList hi r₁
  refine wpAny_bind (wpAny_standAt (wpAny_bind (wpAny_holding ?_)))
  refine getMethod_list_of slot hty hl ⟨_, hg, rfl⟩ ?_
  have z := (q₁ f ρ₁ pos ex) h₁ t₁ R₁ (fun us s₁ => wpAny (model PG f.w) f.A (PySem.call (Value.builtin id) (.ref a :: us)) Qc Ec s₁) Ec (fun us us' σ₂ ρ₂ h₂ t₂ q₂ k₂ R₂ r₂ =>
    (q₂ f ρ₂ (.ref a :: us') ex (.cons ⟨a, pre_get k₂ g1, rfl⟩ r₂)) h₂ t₂ R₂ Qc Ec (fun b a σ' ρ' h' t' q k R' r => hq b a σ' ρ' h' t' q (k₁.trans (k₂.trans k)) R' r) (hE.mono (k₁.trans k₂))) (hE.mono k₁)
  rw [he] at z ⊢
  exact Calls.callWith_builtin (by show (false || (backTo pos (starEach r f.ev)).any (·.1)) = false; rw [hplain]; rfl) (Calls.evalArgs_plain z)
theorem CallB.append {i : Nat} {vs : List V} {v : V} {Q : V → St → Prop} (hi : σ.H[i]? = some (.list vs)) (hz : vs.length < 2 ^ 20) (h : Q .none ⟨σ.loc, σ.H.set i (.list (vs ++ [v]))⟩) : CallB x E (.builtin "list.append") [.ref i, v] σ Q := fun f ρ us e r hh tk R Qc Ec hq _ => by
  cases r with
  | cons r1 r => cases r with
  | cons r2 r => cases r with
  | nil =>
  obtain ⟨m, objs, fo, W⟩ := id R
  obtain ⟨a, l, n, rfl, g1, g2, _, hl, rr, z, hg⟩ := W.isList hi r1
  refine append_K (s := f.st hh tk) W.fr W.news (W.upd g1 g2 _) (fun h' F' N' => ?_) (by rw [List.size_toArray, sizeLine_eq]; (first | lia | omega))
  refine hq .none _ _ ρ h' tk h (List.prefix_refl _) ⟨_, _, _, W.set1 F' N' (x := .list (vs ++ [v])) ⟨l ++ [_], n + 1, by simp, rr.append (.cons r2 .nil), by simp; (first | lia | omega)⟩⟩ rfl
theorem CallB.extend {i j : Nat} {vs ws : List V} {Q : V → St → Prop} (hi : σ.H[i]? = some (.list vs)) (hj : σ.H[j]? = some (.list ws)) (hne : ws ≠ []) (hz : vs.length + ws.length ≤ 2 ^ 20) (h : Q .none ⟨σ.loc, σ.H.set i (.list (vs ++ ws))⟩) :
    CallB x E (.builtin "list.extend") [.ref i, .ref j] σ Q := fun f ρ us e r hh tk R Qc Ec hq _ => by
  cases r with
  | cons r1 r => cases r with
  | cons r2 r => cases r with
  | nil =>
  obtain ⟨m, objs, fo, W⟩ := id R
  obtain ⟨a, l, n, rfl, g1, g2, _, hl, rr, z, hg⟩ := W.isList hi r1
  obtain ⟨b, l', n', rfl, k1, k2, _, hl', rr', z', hg'⟩ := W.isList hj r2
  have e1 := rr.length
  have e2 := rr'.length
  have hne' : ws.length ≠ 0 := fun q => hne (List.length_eq_zero_iff.mp q)
  refine kl_extend (s := f.st hh tk) W.fr W.news (b := b) (its2 := l'.toArray) (n2 := n') (List.mem_append_right _ (List.mem_append_right _ (zip_mem k1 k2))) (l := l ++ l') (by simp) (by simp; intro q; rw [q] at e2; simp at e2; exact hne e2)
    (W.upd g1 g2 _) (extend_door (by simp only [List.size_toArray, sizeLine_eq]; (first | lia | omega))) (by simp only [sizeLine_eq]; (first | lia | omega)) (by simp only [List.size_toArray, sizeLine_eq]; (first | lia | omega)) (fun h' F' N' => ?_)
  refine hq .none _ _ ρ h' tk h (List.prefix_refl _) ⟨_, _, _, W.set1 F' N' (x := .list (vs ++ ws)) ⟨l ++ l', n + 1, rfl, rr.append rr', by simp; (first | lia | omega)⟩⟩ rfl
theorem CallB.pop0 {i : Nat} {v : V} {vs : List V} {Q : V → St → Prop} (hi : σ.H[i]? = some (.list (v :: vs))) (h : Q v ⟨σ.loc, σ.H.set i (.list vs)⟩) : CallB x E (.builtin "list.pop") [.ref i, .int 0] σ Q := fun f ρ us e r hh tk R Qc Ec hq _ => by
  cases r with
  | cons r1 r => cases r with
  | cons r2 r => cases r with
  | nil =>
  obtain ⟨t, rfl⟩ := r2
  obtain ⟨m, objs, fo, W⟩ := id R
  obtain ⟨a, l, n, rfl, g1, g2, _, hl, rr, z, hg⟩ := W.isList hi r1
  cases rr with
  | @cons _ u _ l rv rr =>
  refine kl_popAt (s := f.st hh tk) W.fr W.news (k := 0) (p := []) (q := l) (y := u) (by decide) ?_ (by simp [kl_cut]) (W.upd g1 g2 (listOf (([] : List Value) ++ l).toArray (n + 1))) (by simp only [sizeLine_eq]; simp at z ⊢; (first | lia | omega)) (fun h' F' N' => ?_)
  · simp [seqIndex?]
  · refine hq v u _ ρ h' tk h (List.prefix_refl _) ⟨_, _, _, W.set1 F' N' (x := .list vs) ⟨l, n + 1, rfl, rr, ?_⟩⟩ rv
    have := rr.length
    simp at z
    (first | lia | omega)
theorem CallB.len {i : Nat} {vs : List V} {Q : V → St → Prop} (hi : σ.H[i]? = some (.list vs)) (h : Q (.int vs.length) σ) : CallB x E (.builtin "len") [.ref i] σ Q := fun f ρ us e r hh tk R Qc Ec hq _ => by
  cases r with
  | cons r1 r => cases r with
  | nil =>
  obtain ⟨m, objs, fo, W⟩ := id R
  obtain ⟨a, l, n, rfl, g1, g2, _, hl, rr, z, hg⟩ := W.isList hi r1
  refine len_list hl (by simp; (first | lia | omega)) (hq (.int vs.length) _ σ ρ hh (tk + 1 + 1) h (List.prefix_refl _) R ⟨_, by rw [rr.length]; simp; rfl⟩)
theorem CallB.lenB {xs : List Int} {Q : V → St → Prop} (h : Q (.int xs.length) σ) : CallB x E (.builtin "len") [.bytes xs] σ Q := fun f ρ us e r hh tk R Qc Ec hq _ => by
  cases r with
  | cons r1 r => cases r with
  | nil =>
  obtain ⟨b, t, rfl, hb, z⟩ := r1
  refine len_bytes (Nat.le_trans z (by decide)) (hq (.int xs.length) _ σ ρ hh (tk + 1 + 1) h (List.prefix_refl _) R ⟨_, by rw [← hb]; simp; rfl⟩)
theorem CallB.min2 {a b : Int} {Q : V → St → Prop} (hh0 : x.hx = false) (h : Q (.int (min a b)) σ) : CallB x E (.builtin "min") [.int a, .int b] σ Q := fun f ρ us e r hh tk R Qc Ec hq _ => by
  cases r with
  | cons r1 r => cases r with
  | cons r2 r => cases r with
  | nil =>
  obtain ⟨t, rfl⟩ := r1
  obtain ⟨u, rfl⟩ := r2
  refine min_two_ints (R.ok.hand (by rw [e]; exact hh0)) fun h' tk' k => ?_
  refine hq (.int (min a b)) _ σ ρ h' tk' h (List.prefix_refl _) (R.keeps k) ?_
  by_cases q : b < a
  · rw [if_pos q]; exact ⟨_, by rw [Int.min_eq_right (by (first | lia | omega))]⟩
  · rw [if_neg q]; exact ⟨_, by rw [Int.min_eq_left (by (first | lia | omega))]⟩
theorem CallB.max2 {a b : Int} {Q : V → St → Prop} (hh0 : x.hx = false) (h : Q (.int (max a b)) σ) : CallB x E (.builtin "max") [.int a, .int b] σ Q := fun f ρ us e r hh tk R Qc Ec hq _ => by
  cases r with
  | cons r1 r => cases r with
  | cons r2 r => cases r with
  | nil =>
  obtain ⟨t, rfl⟩ := r1
  obtain ⟨u, rfl⟩ := r2
  refine max_two_ints (R.ok.hand (by rw [e]; exact hh0)) fun h' tk' k => ?_
  refine hq (.int (max a b)) _ σ ρ h' tk' h (List.prefix_refl _) (R.keeps k) ?_
  by_cases q : b > a
  · rw [if_pos q]; exact ⟨_, by rw [Int.max_eq_right (by (first | lia | omega))]⟩
  · rw [if_neg q]; exact ⟨_, by rw [Int.max_eq_left (by (first | lia | omega))]⟩
theorem CallB.minL {i : Nat} {ns : List Int} {Q : V → St → Prop} (hh0 : x.hx = false) (hi : σ.H[i]? = some (.list (ns.map V.int))) (hne : 0 < ns.length) (h : ∀ M, M ∈ ns → (∀ a, a ∈ ns → M ≤ a) → Q (.int M) σ) : CallB x E (.builtin "min") [.ref i] σ Q := fun f ρ us e r hh tk R Qc Ec hq _ => by
  cases r with
  | cons r1 r => cases r with
  | nil =>
  obtain ⟨m, objs, fo, W⟩ := id R
  obtain ⟨a, l, n, rfl, g1, g2, _, hl, rr, z, hg⟩ := W.isList hi r1
  refine min_list_N (R.ok.hand (by rw [e]; exact hh0)) W.fr W.news hl (ints_of rr) hne fun h' M t tk' F' N' h1 h2 => ?_
  exact hq (.int M) _ σ ρ h' tk' (h M h1 h2) (List.prefix_refl _) ⟨_, _, _, W.same F' N'⟩ ⟨t, rfl⟩
theorem CallB.maxL {i : Nat} {ns : List Int} {Q : V → St → Prop} (hh0 : x.hx = false) (hi : σ.H[i]? = some (.list (ns.map V.int))) (hne : 0 < ns.length) (h : ∀ M, M ∈ ns → (∀ a, a ∈ ns → a ≤ M) → Q (.int M) σ) : CallB x E (.builtin "max") [.ref i] σ Q := fun f ρ us e r hh tk R Qc Ec hq _ => by
  cases r with
  | cons r1 r => cases r with
  | nil =>
  obtain ⟨m, objs, fo, W⟩ := id R
  obtain ⟨a, l, n, rfl, g1, g2, _, hl, rr, z, hg⟩ := W.isList hi r1
  refine max_list_N (R.ok.hand (by rw [e]; exact hh0)) W.fr W.news hl (ints_of rr) hne fun h' M t tk' F' N' h1 h2 => ?_
  exact hq (.int M) _ σ ρ h' tk' (h M h1 h2) (List.prefix_refl _) ⟨_, _, _, W.same F' N'⟩ ⟨t, rfl⟩

/-- comparisons of lists of ints, of bytes, of strs -/
theorem Op2.neL {i j : Nat} {ns ms : List Int} {Q : V → St → Prop} (hi : σ.H[i]? = some (.list (ns.map V.int))) (hj : σ.H[j]? = some (.list (ms.map V.int))) (h : Q (.bool (!decide (ns = ms))) σ) : Op2 x E (compareOp .NotEq) (.ref i) (.ref j) σ Q := fun f ρ va vb e ra rb hh tk R Qc Ec hq _ => by
  obtain ⟨m, objs, fo, W⟩ := id R
  obtain ⟨a, l, n, rfl, g1, g2, _, hl, rr, z, hg⟩ := W.isList hi ra
  obtain ⟨b, l', n', rfl, k1, k2, _, hl', rr', z', hg'⟩ := W.isList hj rb
  exact ne_intsK hl (ints_of rr) hl' (ints_of rr') (by have := R.ok.units; (first | lia | omega)) (hq (.bool _) _ σ ρ hh tk h (List.prefix_refl _) R rfl)
theorem bytes_inj {b c : Array UInt8} (h : b.toList.map (fun c => (c.toNat : Int)) = c.toList.map (fun c => (c.toNat : Int))) : b.toList = c.toList :=
  List.map_inj_right (fun x y q => UInt8.toNat_inj.mp (by exact_mod_cast q)) |>.mp h
theorem Op2.neB {xs ys : List Int} {Q : V → St → Prop} (h : Q (.bool (!decide (xs = ys))) σ) : Op2 x E (compareOp .NotEq) (.bytes xs) (.bytes ys) σ Q := fun f ρ va vb e ⟨b, t, eb, hb, _⟩ ⟨c, u, ec, hc, _⟩ hh tk R Qc Ec hq _ => by
  subst eb ec
  refine ne_bytes ?_
  have e : (b.toList != c.toList) = !decide (xs = ys) := by
    by_cases q : b.toList = c.toList
    · have : xs = ys := by rw [← hb, ← hc, q]
      simp [q, this]
    · have : xs ≠ ys := fun z => q (bytes_inj (hb.trans (z.trans hc.symm)))
      simp [q, this]
  rw [e]
  exact hq (.bool _) _ σ ρ hh tk h (List.prefix_refl _) R rfl
end
end
section
/-- the same place, another set of names: what the iterator needs to know of a frame -/
structure Sib (f f' : Fx) : Prop where
  w : f'.w = f.w
  base : f'.base = f.base
  A : f'.A = f.A
  hx : f'.x.hx = f.x.hx
  s₀ : f'.s₀ = f.s₀
theorem Sib.refl (f : Fx) : Sib f f := ⟨rfl, rfl, rfl, rfl, rfl⟩
theorem Sib.st {f f' : Fx} (s : Sib f f') (h : Heap) (t : Nat) : f'.st h t = f.st h t := by unfold Fx.st; rw [s.s₀]

structure Apart (f : Fx) (ρ : List Addr) (own : List Addr) : Prop where
  nd : own.Nodup
  off : ∀ b ∈ own, b ∉ tracked f ρ
  new : ∀ b ∈ own, f.base.get? b = none
noncomputable def withKp (f : Fx) (ps : List (Addr × Obj)) : Fx := { f with kp := ps ++ f.kp }
noncomputable def ownObjs (own : List Addr) (h : Heap) : List (Addr × Obj) := own.filterMap fun b => (h.get? b).map (b, ·)
theorem ownObjs_mem {own : List Addr} {h : Heap} {p : Addr × Obj} : p ∈ ownObjs own h ↔ p.1 ∈ own ∧ h.get? p.1 = some p.2 := by
  unfold ownObjs
  rw [List.mem_filterMap]
  constructor
  · rintro ⟨b, hb, e⟩
    cases q : h.get? b with
    | none => rw [q] at e; cases e
    | some o => rw [q] at e; cases e; exact ⟨hb, q⟩
  · rintro ⟨h1, h2⟩
    exact ⟨p.1, h1, by rw [h2]; rfl⟩
theorem ownObjs_map {own : List Addr} {h : Heap} (hl : ∀ b ∈ own, ∃ o, h.get? b = some o) : (ownObjs own h).map (·.1) = own := by
  unfold ownObjs
  induction own with
  | nil => rfl
  | cons b own ih =>
    obtain ⟨o, ho⟩ := hl b (List.mem_cons_self ..)
    rw [List.filterMap_cons, ho]
    show b :: _ = _
    rw [ih fun c hc => hl c (List.mem_cons_of_mem _ hc)]
section
variable {f : Fx} {ρ : List Addr} {σ : St} {h : Heap} {own : List Addr}
theorem Fx.Ok.withKp (ok : f.Ok) (ps : List (Addr × Obj)) : (withKp f ps).Ok := ⟨ok.ki, ok.top, ok.kind, ok.sc, ok.loc, ok.glob, ok.blt, ok.frm, ok.fr, ok.hand, ok.guards, ok.frs, ok.fe, ok.depth, ok.units⟩
theorem Rel.keepOwn (R : Rel f ρ σ h) (ap : Apart f ρ own) (hl : ∀ b ∈ own, ∃ o, h.get? b = some o) : Rel (withKp f (ownObjs own h)) ρ σ h := by
  obtain ⟨m, objs, fo, W⟩ := R
  refine ⟨m, objs, fo, W.ok.withKp _, W.fr, W.loc, fun p hp => ?_, W.ns, W.obj, W.len, ?_, W.cells⟩
  · rcases List.mem_append.mp hp with q | q
    · exact W.news p (List.mem_append_left _ q)
    · show _ ∧ _
      have q : p ∈ (ownObjs own h ++ f.kp) ++ ρ.zip objs := q
      rw [List.append_assoc] at q
      rcases List.mem_append.mp q with q | q
      · obtain ⟨h1, h2⟩ := ownObjs_mem.mp q
        refine ⟨h2, fun e => ap.off _ h1 (by rw [e]; exact List.mem_cons_self ..), ap.new _ h1⟩
      · exact W.news p (List.mem_append_right _ q)
  · show (f.os.map (·.1) ++ ((ownObjs own h ++ f.kp).map (·.1) ++ ρ)).Nodup
    rw [List.map_append, ownObjs_map hl, List.append_assoc]
    obtain ⟨n1, n2, n3⟩ := List.nodup_append.mp W.nd
    refine List.nodup_append.mpr ⟨n1, List.nodup_append.mpr ⟨ap.nd, n2, fun a ha b hb e => ?_⟩, fun a ha b hb e => ?_⟩
    · subst e
      exact ap.off a ha (List.mem_cons_of_mem _ (List.mem_append_right _ hb))
    · subst e
      rcases List.mem_append.mp hb with hb | hb
      · exact ap.off a hb (List.mem_cons_of_mem _ (List.mem_append_left _ ha))
      · exact n3 a ha a hb rfl
theorem Rel.dropOwn {ps : List (Addr × Obj)} (R : Rel (withKp f ps) ρ σ h) : Rel f ρ σ h ∧ (∀ p ∈ ps, h.get? p.1 = some p.2) ∧ (∀ p ∈ ps, p.1 ∉ tracked f ρ) := by
  obtain ⟨m, objs, fo, W⟩ := R
  have ok : f.Ok := ⟨W.ok.ki, W.ok.top, W.ok.kind, W.ok.sc, W.ok.loc, W.ok.glob, W.ok.blt, W.ok.frm, W.ok.fr, W.ok.hand, W.ok.guards, W.ok.frs, W.ok.fe, W.ok.depth, W.ok.units⟩
  have nd : (f.os.map (·.1) ++ ((ps ++ f.kp).map (·.1) ++ ρ)).Nodup := W.nd
  rw [List.map_append, List.append_assoc] at nd
  obtain ⟨n1, n2, n3⟩ := List.nodup_append.mp nd
  obtain ⟨m1, m2, m3⟩ := List.nodup_append.mp n2
  have hps : ∀ p ∈ ps, p ∈ ((withKp f ps).os.map (·.1)).zip fo ++ ((withKp f ps).kp ++ ρ.zip objs) := fun p hp =>
    List.mem_append_right _ (List.mem_append_left _ (List.mem_append_left _ hp))
  refine ⟨⟨m, objs, fo, ok, W.fr, W.loc, fun p hp => W.news p ?_, W.ns, W.obj, W.len, ?_, W.cells⟩, fun p hp => (W.news p (hps p hp)).1, fun p hp q => ?_⟩
  · rcases List.mem_append.mp hp with q | q
    · exact List.mem_append_left _ q
    · refine List.mem_append_right _ ?_
      show p ∈ (ps ++ f.kp) ++ ρ.zip objs
      rw [List.append_assoc]
      exact List.mem_append_right _ q
  · exact List.nodup_append.mpr ⟨n1, m2, fun a ha b hb => n3 a ha b (List.mem_append_right _ hb)⟩
  · rcases List.mem_cons.mp q with e | q
    · exact (W.news p (hps p hp)).2.1 e
    · rcases List.mem_append.mp q with q | q
      · exact n3 p.1 q p.1 (List.mem_append_left _ (List.mem_map_of_mem hp)) rfl
      · exact m3 p.1 (List.mem_map_of_mem hp) p.1 q rfl
theorem Apart.more {ρ' : List Addr} {σ' : St} {h' : Heap} (ap : Apart f ρ own) (hl : ∀ b ∈ own, ∃ o, h.get? b = some o) (R : Rel (withKp f (ownObjs own h)) ρ' σ' h') : Apart f ρ' own :=
  ⟨ap.nd, fun b hb => by
    obtain ⟨o, ho⟩ := hl b hb
    exact (R.dropOwn).2.2 (b, o) (ownObjs_mem.mpr ⟨hb, ho⟩), ap.new⟩
theorem kept_own {ρ' : List Addr} {σ' : St} {h' : Heap} (R : Rel (withKp f (ownObjs own h)) ρ' σ' h') : ∀ b ∈ own, ∀ o, h.get? b = some o → h'.get? b = some o := fun b hb o e =>
  (R.dropOwn).2.1 (b, o) (ownObjs_mem.mpr ⟨hb, e⟩)
theorem ExcAt.drop {ps : List (Addr × Obj)} {j : Nat} {e : Addr} (X : ExcAt (withKp f ps) ρ j e h) : ExcAt f ρ j e h := by
  have sub : ∀ a, a ∈ tracked f ρ → a ∈ tracked (withKp f ps) ρ := fun a q => by
    rcases List.mem_cons.mp q with q | q
    · exact q ▸ List.mem_cons_self ..
    · refine List.mem_cons_of_mem _ ?_
      rcases List.mem_append.mp q with q | q
      · exact List.mem_append_left _ q
      · refine List.mem_append_right _ ?_
        show a ∈ (ps ++ f.kp).map (·.1) ++ ρ
        rw [List.map_append, List.append_assoc]
        exact List.mem_append_right _ q
  refine ⟨X.new, fun q => X.apart (sub _ q), ?_⟩
  obtain ⟨oe, vs, t, d, h1, h2, h3, h4, h5, h6, h7⟩ := X.here
  refine ⟨oe, vs, t, d, h1, h2, h3, h4, h5, h6, ?_⟩
  rcases h7 with h7 | ⟨T, oT, ts, a1, a2, a3⟩
  · exact .inl h7
  · exact .inr ⟨T, oT, ts, a1, fun q => a2 (sub _ q), a3⟩
theorem EP.keepOwn {E : Nat → St → Prop} {Ec : Value → Shared → Prop} {ps : List (Addr × Obj)} (x : EP f ρ E Ec) : EP (withKp f ps) ρ E Ec :=
  ⟨x.1, fun j σ' ρ' h' t' e a b c d => x.2 j σ' ρ' h' t' e a b c.dropOwn.1 d.drop⟩
theorem EP.never : EP f ρ (fun _ _ => False) fun _ _ => False := ⟨PassesOwn.never, fun _ _ _ _ _ _ a => a.elim⟩
theorem Rel.but (R : Rel f ρ σ h) {h' : Heap} (ap : Apart f ρ own) (k : ∀ b o, b ∉ own → h.get? b = some o → h'.get? b = some o) : Rel f ρ σ h' := by
  obtain ⟨m, objs, fo, W⟩ := R
  refine ⟨m, objs, fo, W.ok, ⟨?_, fun b o e => k b o (fun q => by have := ap.new b q; rw [this] at e; cases e) (W.fr.keep b o e), W.fr.above⟩, W.loc, fun p hp => ⟨k _ _ (fun q => ap.off _ q ?_) (W.news p hp).1, (W.news p hp).2⟩, W.ns, W.obj, W.len, W.nd, W.cells⟩
  · obtain ⟨o, es, ep, h1, h2⟩ := W.fr.ns
    exact ⟨o, es, ep, k _ _ (fun q => ap.off _ q (List.mem_cons_self ..)) h1, h2⟩
  · refine List.mem_cons_of_mem _ ?_
    rw [← W.all1]
    exact List.mem_map_of_mem hp
end

/-- an iterator at work over n items: A says what the taking of item k does -/
structure Turner (f : Fx) (tgt : Expr) (it : Addr) (own : List Addr) (n : Nat) (L : List O → Prop) (A : Sx → (Nat → St → Prop) → Nat → St → (St → Prop) → Prop) (ρ₀ : List Addr) (S : Nat → Heap → Prop) : Prop where
  live : ∀ k h, S k h → ∀ b ∈ own, ∃ o, h.get? b = some o
  frame : ∀ k h h', S k h → (∀ b ∈ own, ∀ o, h.get? b = some o → h'.get? b = some o) → S k h'
  step : ∀ (f' : Fx), Sib f f' → ∀ (E : Nat → St → Prop) (k : Nat) (σ : St) (ρ : List Addr) (h : Heap) (tk : Nat) (Q : St → Prop), k < n → L σ.H → A f'.x E k σ Q → ρ₀ <+: ρ → Rel f' ρ σ h → S k h → Apart f' ρ own → ∀ (Qc : Shared → Prop) (Ec : Value → Shared → Prop),
    (∀ h₁ h' tk' σ' ρ', S (k + 1) h₁ → Q σ' → ρ <+: ρ' → Rel (withKp f' (ownObjs own h₁)) ρ' σ' h' → Qc (f'.st h' tk')) → EP f' ρ E Ec →
    wpAny (model PG f'.w) f'.A (pyNext (.ref it)) (fun r s₁ => match r with | none => False | some v => wpAny (model PG f'.w) f'.A (letOwnedTupleGo tgt (.ref it) v) (fun _ s₁' => wpAny (model PG f'.w) f'.A (assign tgt f'.ev v) (fun _ s₂ => Qc s₂) Ec s₁') Ec s₁) Ec (f'.st h tk)
  done : ∀ (f' : Fx), Sib f f' → ∀ (σ : St) (ρ : List Addr) (h : Heap) (tk : Nat), L σ.H → ρ₀ <+: ρ → Rel f' ρ σ h → S n h → Apart f' ρ own → ∀ (Qc : Shared → Prop) (Ec : Value → Shared → Prop),
    (∀ h' tk', Rel f' ρ σ h' → Qc (f'.st h' tk')) → wpAny (model PG f'.w) f'.A (pyNext (.ref it)) (fun r s₁ => match r with | none => Qc s₁ | some _ => False) Ec (f'.st h tk)
  self : ∀ (f' : Fx), Sib f f' → ∀ k h tk (Q : Value → Shared → Prop) (Ec : Value → Shared → Prop), S k h → Q (.ref it) (f'.st h tk) → wpAny (model PG f'.w) f'.A (pyIter (.ref it)) Q Ec (f'.st h tk)

/-- the iterable of a loop: how many items, what must hold of the objects, what the taking of an item does -/
noncomputable def TIt (x : Sx) (E : Nat → St → Prop) (tgt : Expr) (σ : St) (iter : Expr) (R : Nat → (List O → Prop) → (Sx → (Nat → St → Prop) → Nat → St → (St → Prop) → Prop) → St → Prop) : Prop :=
  ∀ f ρ h tk, f.x = x → Rel f ρ σ h → ∀ (Qc : Value → Shared → Prop) (Ec : Value → Shared → Prop),
    (∀ n L A σ' ρ' it own S h' tk', R n L A σ' → ρ <+: ρ' → Turner f tgt it own n L A ρ' S → S 0 h' → Rel f ρ' σ' h' → L σ'.H → Apart f ρ' own → Qc (.ref it) (f.st h' tk')) → EP f ρ E Ec →
    wpAny (model PG f.w) f.A (eval iter f.ev) (fun u s₁ => wpAny (model PG f.w) f.A (pyIter u) Qc Ec s₁) Ec (f.st h tk)

section
variable {x : Sx} {E : Nat → St → Prop} {σ : St}
theorem TS.while_ {test : Expr} {body : List Stmt} {p : Pos} {Q : Fl → St → Prop} (I : Nat → St → Prop) (n : Nat) (h0 : I n σ)
    (turn : ∀ n σ', I n σ' → TB x E σ' test fun b σ₁ => if b then TSs x E σ₁ body (fun fl σ₂ => match fl with | .next => ∃ m, m < n ∧ I m σ₂ | .cont => ∃ m, m < n ∧ I m σ₂ | .brk => Q .next σ₂ | .ret v => Q (.ret v) σ₂) else Q .next σ₁) :
    TS x E σ (.While test body [] p) Q := fun f ρ e hh tk R Qc Ec hq hE => by
  refine wpAny_While (codeAny_whileLoop (fun k s' => ∃ σ' ρ' h' t', s' = f.st h' t' ∧ I k σ' ∧ ρ <+: ρ' ∧ Rel f ρ' σ' h') ?_ n ⟨σ, ρ, hh, tk, rfl, h0, List.prefix_refl _, R⟩)
  rintro k s' ⟨σ', ρ', h', t', rfl, hI, hk, R'⟩
  refine wpAny_passesOwn hE.1 ?_
  refine (turn k σ' hI f ρ' e) h' t' R' _ Ec ?_ (hE.mono hk)
  intro b b' σ₁ ρ₁ h₁ t₁ q₁ k₁ R₁ r₁
  cases r₁
  cases b with
  | false =>
    simp only [Bool.false_eq_true, if_false] at q₁ ⊢
    exact wpAny_pure (hq .next _ σ₁ ρ₁ h₁ t₁ q₁ (hk.trans k₁) R₁ rfl)
  | true =>
    simp only [if_true] at q₁ ⊢
    refine wpAny_passesOwn hE.1 ((q₁ f ρ₁ e) h₁ t₁ R₁ _ Ec ?_ (hE.mono (hk.trans k₁)))
    intro fl fl' σ₂ ρ₂ h₂ t₂ q₂ k₂ R₂ r₂
    have kk := hk.trans (k₁.trans k₂)
    cases fl with
    | next => cases r₂; obtain ⟨m, hm, q₂⟩ := q₂; exact ⟨m, hm, σ₂, ρ₂, h₂, t₂, rfl, q₂, kk, R₂⟩
    | cont => cases r₂; obtain ⟨m, hm, q₂⟩ := q₂; exact ⟨m, hm, σ₂, ρ₂, h₂, t₂, rfl, q₂, kk, R₂⟩
    | brk => cases r₂; exact hq .next _ σ₂ ρ₂ h₂ t₂ q₂ kk R₂ rfl
    | ret v => obtain ⟨v', rfl, r₂⟩ := r₂; exact hq (.ret v) _ σ₂ ρ₂ h₂ t₂ q₂ kk R₂ ⟨v', rfl, r₂⟩

theorem TS.for_ {tgt iter : Expr} {body : List Stmt} {p : Pos} {Q : Fl → St → Prop} (h : TIt x E tgt σ iter fun n L A σ₁ => ∃ J : Nat → St → Prop, J 0 σ₁ ∧ (∀ i σ', J i σ' → L σ'.H) ∧
      (∀ i σ', i < n → J i σ' → A x E i σ' fun σ₂ => TSs x E σ₂ body (fun fl σ₃ => match fl with | .next => J (i + 1) σ₃ | .cont => J (i + 1) σ₃ | .brk => Q .next σ₃ | .ret v => Q (.ret v) σ₃)) ∧ (∀ σ', J n σ' → Q .next σ'))
    (hs : ∀ env u, foldedSetIterable iter env u = pure u) : TS x E σ (.For tgt iter body [] p) Q := fun f ρ e hh tk R Qc Ec hq hE => by
  refine wpAny_For ((h f ρ hh tk e R) _ Ec ?_ hE) (hs _)
  rintro n L A σ₁ ρ₁ it own S h₁ t₁ ⟨J, J0, JL, Js, Je⟩ k₁ T S0 R₁ hL ap
  obtain ⟨Inv, hInv⟩ : ∃ Inv : Nat → Shared → Prop, Inv = fun k s' => ∃ i σ' ρ' h' t', k = n + 1 - i ∧ i ≤ n ∧ s' = f.st h' t' ∧ J i σ' ∧ ρ₁ <+: ρ' ∧ Rel f ρ' σ' h' ∧ S i h' ∧ Apart f ρ' own := ⟨_, rfl⟩
  refine codeAny_forLoop_any Inv ?_ (n + 1) (hInv ▸ ⟨0, σ₁, ρ₁, h₁, t₁, rfl, Nat.zero_le _, rfl, J0, List.prefix_refl _, R₁, S0, ap⟩)
  intro k s' hI
  rw [hInv] at hI
  obtain ⟨i, σ', ρ', h', t', rfl, hi, rfl, hJ, kk, R', hS, ap'⟩ := hI
  by_cases hlt : i < n
  · have hA := Js i σ' hlt hJ
    rw [← e] at hA
    refine wpAny_passesOwn hE.1 ?_
    refine wpAny_mono (T.step f (Sib.refl f) E i σ' ρ' h' t' _ hlt (JL i σ' hJ) hA kk R' hS ap' (fun s₂ => wpAny (model PG f.w) f.A (execs body f.ev) (fun fl s₃ => match fl with | .next => ∃ m, m < n + 1 - i ∧ Inv m s₃ | .cont => ∃ m, m < n + 1 - i ∧ Inv m s₃ | .brk => Qc .next s₃ | .ret v => Qc (.ret v) s₃) (notedBy (model PG f.w) f.A f.ev (cameBackBy (model PG f.w) f.A f.ev Ec)) s₂) Ec ?_ (hE.mono (k₁.trans kk))) (fun r s₁ hr => ?_) fun _ _ y => y
    · intro h₂ h₃ t₃ σ₃ ρ₃ S₂ q₃ k₃ R₃
      refine wpAny_passesOwn hE.1 ?_
      rw [e] at q₃
      refine (q₃ (withKp f (ownObjs own h₂)) ρ₃ e) h₃ t₃ R₃ _ Ec ?_ ((hE.mono (k₁.trans (kk.trans k₃))).keepOwn)
      intro fl fl' σ₄ ρ₄ h₄ t₄ q₄ k₄ R₄ r₄
      have lv := T.live _ _ S₂
      have S₄ := T.frame _ _ _ S₂ (kept_own R₄)
      have ap₂ : Apart f ρ₃ own := ⟨ap'.nd, fun b hb => by
        obtain ⟨o, ho⟩ := lv b hb
        exact (R₃.dropOwn).2.2 (b, o) (ownObjs_mem.mpr ⟨hb, ho⟩), ap'.new⟩
      have ap₄ := ap₂.more lv R₄
      have R₄' := R₄.dropOwn.1
      cases fl with
      | next => cases r₄; exact ⟨n + 1 - (i + 1), by (first | lia | omega), hInv ▸ ⟨i + 1, σ₄, ρ₄, h₄, t₄, rfl, hlt, rfl, q₄, kk.trans (k₃.trans k₄), R₄', S₄, ap₄⟩⟩
      | cont => cases r₄; exact ⟨n + 1 - (i + 1), by (first | lia | omega), hInv ▸ ⟨i + 1, σ₄, ρ₄, h₄, t₄, rfl, hlt, rfl, q₄, kk.trans (k₃.trans k₄), R₄', S₄, ap₄⟩⟩
      | brk => cases r₄; exact hq .next _ σ₄ ρ₄ h₄ t₄ q₄ (k₁.trans (kk.trans (k₃.trans k₄))) R₄' rfl
      | ret v => obtain ⟨v', rfl, r₄⟩ := r₄; exact hq (.ret v) _ σ₄ ρ₄ h₄ t₄ q₄ (k₁.trans (kk.trans (k₃.trans k₄))) R₄' ⟨v', rfl, r₄⟩
    · cases r with
      | none => exact hr.elim
      | some v => exact wpAny_passesOwn hE.1 (wpAny_mono hr (fun _ s₁' hr' => wpAny_passesOwn hE.1 hr') fun _ _ y => y)
  · have hin : i = n := by (first | lia | omega)
    subst hin
    refine wpAny_mono (T.done f (Sib.refl f) σ' ρ' h' t' (JL i σ' hJ) kk R' hS ap' (fun s => Qc .next s) _ ?_) (fun r s₁ hr => ?_) fun _ _ y => y
    · intro h₂ t₂ R₂
      exact hq .next _ σ' ρ' h₂ t₂ (Je σ' hJ) (k₁.trans kk) R₂ rfl
    · cases r with
      | none => exact wpAny_pure hr
      | some v => exact hr.elim
end
end
section
section
variable {prog : Program} {w : World} {A : Around} {E : Value → Shared → Prop} {s : Shared} {b : Array UInt8} {t : Tok}
open KBw in
theorem nextOf_bytes_item {it : Addr} {i : Nat} {c : UInt8} {Q : Value → Shared → Prop} (hit : IsBytesIter s.heap it b t i) (hx : b[i]? = some c)
    (hQ : ∀ h', IsBytesIter h' it b t (i + 1) → Heap.SameBut it s.heap h' → Q (.int (c.toNat : Int) s.toks) { s with heap := h', toks := s.toks + 1 }) : wpAny (model prog w) A (Builtin.SmallTypes.nextOf (.ref it)) Q E s := by
  obtain ⟨o, ho, hc, hd⟩ := id hit
  unfold Builtin.SmallTypes.nextOf
  refine wpAny_bind (wpAny_callSpecial?_slot (name := PySem.Str.ofString "__next__") (iter_typeIs hit) slot_next
    (wpAny_call_entry slot_next (iter_typeIs hit) entry_next ?_ (args_next _)))
  show wpAny _ _ (field (.ref it) 0 >>= _) _ _ s
  refine wpAny_bind (wpAny_field ho hd (x := .bytes b t) rfl ?_)
  show wpAny _ _ (if (Value.bytes b t == Value.none) = true then _ else _) _ _ s
  rw [if_neg (show ¬ ((Value.bytes b t == Value.none) = true) from Bool.false_ne_true)]
  show wpAny _ _ (field (.ref it) 1 >>= _) _ _ s
  refine wpAny_bind (wpAny_field ho hd (x := .int i 0) rfl ?_)
  refine wpAny_bind (wpAny_of_eq (a := b) rfl ?_)
  simp only [Int.toNat_natCast, hx]
  refine wpAny_bind (wpAny_setField ho hd (by simp) (wpAny_bind (wpAny_mkInt (wpAny_pure ⟨_, rfl, wpAny_pure (hQ _ ?_ (Heap.SameBut.update ..))⟩))))
  exact ⟨_, Heap.get?_update_self _ ho (Obj.isFreed_of_fields (Obj.data_mapFields hd _)), (Obj.cls_mapFields ..).trans hc, by
    rw [Obj.data_mapFields hd]; simp [rawInt]⟩
open KBw in
theorem nextOf_bytes_end {it : Addr} {i : Nat} {Q : Value → Shared → Prop} (hh : A.handled = none) (hit : IsBytesIter s.heap it b t i) (hx : b[i]? = none)
    (hE : ∀ h' e, Heap.ExtBut it s.heap h' → (∃ o, h'.get? e = some o ∧ o.cls = .type "StopIteration") → E (.ref e) { s with heap := h' }) : wpAny (model prog w) A (Builtin.SmallTypes.nextOf (.ref it)) Q E s := by
  obtain ⟨o, ho, hc, hd⟩ := id hit
  unfold Builtin.SmallTypes.nextOf
  refine wpAny_bind (wpAny_callSpecial?_slot (name := PySem.Str.ofString "__next__") (iter_typeIs hit) slot_next
    (wpAny_call_entry slot_next (iter_typeIs hit) entry_next ?_ (args_next _)))
  show wpAny _ _ (field (.ref it) 0 >>= _) _ _ s
  refine wpAny_bind (wpAny_field ho hd (x := .bytes b t) rfl ?_)
  show wpAny _ _ (if (Value.bytes b t == Value.none) = true then _ else _) _ _ s
  rw [if_neg (show ¬ ((Value.bytes b t == Value.none) = true) from Bool.false_ne_true)]
  show wpAny _ _ (field (.ref it) 1 >>= _) _ _ s
  refine wpAny_bind (wpAny_field ho hd (x := .int i 0) rfl ?_)
  refine wpAny_bind (wpAny_of_eq (a := b) rfl ?_)
  simp only [Int.toNat_natCast, hx]
  refine wpAny_bind (wpAny_rule (wpAny_bind (wpAny_setField ho hd (by simp) ?_)))
  show wpAny _ _ (newExc (.type "StopIteration") [] >>= _) _ _ _
  refine wpAny_bind ?_
  simp only [newExc, newTuple]
  refine wpAny_bind (wpAny_newObj_type ?_ (by size_fits))
  refine wpAny_bind (m := firstArgMember _ _) (wpAny_of_eq (a := Value.none) (by first | rfl | (simp only [firstArgMember]; rfl)) ?_)
  refine wpAny_newObj_type ?_ (by size_fits)
  simp only [raiseNew]
  refine wpAny_bind (wpAny_handled ?_)
  rw [show A.in1.handled = none from hh]
  refine wpAny_bind (wpAny_pure (wpAny_throw ?_))
  exact hE _ _ (((Heap.SameBut.update ..).extBut.push _).push _) ⟨_, Heap.get?_push_size _ rfl, rfl⟩
end
theorem drawsBytes {prog : Program} {w : World} {A : Around} (hh : A.handled = none) (it : Addr) (b : Array UInt8) (t : Tok) :
    Draws prog w A it [it] b.size (fun i v => ∃ c u, b[i]? = some c ∧ v = .int (c.toNat : Int) u) (fun i h => KBw.IsBytesIter h it b t i) where
  live := fun _ _ st => let ⟨o, ho, _⟩ := st; ⟨o, ho⟩
  frame := fun _ _ _ st hk => let ⟨o, ho, r⟩ := st; ⟨o, hk it (by simp) o ho, r⟩
  item := fun i s Q E hi st hQ => by
    refine nextOf_bytes_item st (c := b[i]) (by simp [hi]) fun h' hit' hs' => ?_
    exact hQ _ h' (s.toks + 1) ⟨_, _, by simp [hi], rfl⟩ hit' hs'
  done := fun s Q E st hE => nextOf_bytes_end hh st (by simp) hE

open AutoSeq1 (wpAny_loadPart') in
set_option maxHeartbeats 1000000 in
theorem meets_enum_bytes (b : Array UInt8) (t : Tok) :
    Meets (Builtin.«enumerate.__new__» ⟨[.type "enumerate", .bytes b t], []⟩) (fun _ R s =>
      R (.ok (.ret (.ref (s.heap.push { cls := .type "bytes_iterator", data := .fields #[.bytes b t, .int 0 0] }).objs.size)))
        { s with heap := (s.heap.push { cls := .type "bytes_iterator", data := .fields #[.bytes b t, .int 0 0] }).push { cls := .type "enumerate", data := .fields #[.none, .bool false, .ref s.heap.objs.size, rawInt 0, .none, .none] } }) :=
  .of_wp fun prog w A R s h => by
    obtain ⟨hp, g, d, tk, os⟩ := s
    have hsub := sub_enumerate
    wp_walk
    refine wpAny_stack_any fun st => wpAny_pure ?_
    split
    · rename_i c _ _ _ _ _
      cases (c == Value.type "enumerate")
      · wp_walk using KBw.pyIter_bytes
        exact ⟨_, rfl, h⟩
      · wp_walk using KBw.pyIter_bytes
        exact ⟨_, rfl, h⟩
    · wp_walk using KBw.pyIter_bytes
      exact ⟨_, rfl, h⟩
theorem call_enum_bytes {prog : Program} {w : World} {A : Around} {E : Value → Shared → Prop} {s : Shared} {b : Array UInt8} {t : Tok} {Q : Value → Shared → Prop}
    (h : ∀ h', IsEnum h' (s.heap.objs.size + 1) s.heap.objs.size 0 .none → KBw.IsBytesIter h' s.heap.objs.size b t 0 → h'.objs.size = s.heap.objs.size + 2 →
      (∀ b o, s.heap.get? b = some o → h'.get? b = some o) → Q (.ref (s.heap.objs.size + 1)) { s with heap := h' }) :
    wpAny (model prog w) A (call (.type "enumerate") [.bytes b t]) Q E s := by
  refine callType_new F.called_enumerate (by decide) (F.typeCall_enumerate_1 _) (F.newCall_enumerate_1 _) (fun obj => F.args_object_init_2 obj _) F.entry_enumerate_new (meets_enum_bytes b t) ?_
  have hz : (s.heap.push { cls := .type "bytes_iterator", data := .fields #[.bytes b t, .int 0 0] }).objs.size = s.heap.objs.size + 1 := Heap.size_push ..
  show _ ∧ _
  rw [hz]
  have he : IsEnum ((s.heap.push { cls := .type "bytes_iterator", data := .fields #[.bytes b t, .int 0 0] }).push
      { cls := .type "enumerate", data := .fields #[.none, .bool false, .ref s.heap.objs.size, rawInt 0, .none, .none] }) (s.heap.objs.size + 1) s.heap.objs.size 0 .none := by
    have := Heap.get?_push_size (s.heap.push { cls := .type "bytes_iterator", data := .fields #[.bytes b t, .int 0 0] })
      (o := { cls := .type "enumerate", data := .fields #[.none, .bool false, .ref s.heap.objs.size, rawInt 0, .none, .none] }) rfl
    rw [hz] at this; exact this
  refine ⟨⟨_, he, rfl⟩, h _ he ⟨_, Heap.get?_push_of_some _ (Heap.get?_push_size _ rfl), rfl, rfl⟩ (by rw [Heap.size_push, hz]) fun b o y => Heap.get?_push_of_some _ (Heap.get?_push_of_some _ y)⟩

section
variable {f : Fx} {ρ : List Addr} {σ : St} {h : Heap}
theorem Rel.lt_tracked (R : Rel f ρ σ h) {a : Addr} (ha : a ∈ tracked f ρ) : a < h.objs.size := by
  obtain ⟨m, objs, fo, W⟩ := R
  rcases List.mem_cons.mp ha with e | q
  · exact e ▸ W.fr.ns.lt
  · exact W.lt_of_mem q
theorem Rel.apart1 (R : Rel f ρ σ h) : Apart f ρ [h.objs.size] := ⟨by simp, fun b hb q => by
    rw [List.mem_singleton] at hb; subst hb
    exact Nat.lt_irrefl _ (R.lt_tracked q), fun b hb => by
    rw [List.mem_singleton] at hb; subst hb
    cases q : f.base.get? h.objs.size with
    | none => rfl
    | some o => exact absurd (Heap.lt_size (R.stays _ _ q)) (Nat.lt_irrefl _)⟩
theorem Rel.apart2 (R : Rel f ρ σ h) : Apart f ρ [h.objs.size + 1, h.objs.size] := ⟨by simp, fun b hb q => by
    have z : b < h.objs.size := R.lt_tracked q
    simp at hb
    rcases hb with e | e
    · rw [e] at z; exact Nat.lt_irrefl _ (Nat.lt_of_succ_lt z)
    · rw [e] at z; exact Nat.lt_irrefl _ z, fun b hb => by
    cases q : f.base.get? b with
    | none => rfl
    | some o =>
      have z : b < h.objs.size := Heap.lt_size (R.stays _ _ q)
      simp at hb
      rcases hb with e | e
      · rw [e] at z; exact absurd (Nat.lt_of_succ_lt z) (Nat.lt_irrefl _)
      · rw [e] at z; exact absurd z (Nat.lt_irrefl _)⟩
/-- after the taking of an item: the iterator's own objects are kept while the names are set -/
theorem step_done {f' : Fx} {own : List Addr} {k : Nat} {S : Nat → Heap → Prop} (R : Rel f' ρ σ h) (ap : Apart f' ρ own) {h₁ : Heap} {tk : Nat} (kk : ∀ b o, b ∉ own → h.get? b = some o → h₁.get? b = some o) (hS : S k h₁) (live : ∀ b ∈ own, ∃ o, h₁.get? b = some o)
    {E : Nat → St → Prop} {Q : St → Prop} {t : Sem Unit} (hA : Run (withKp f' (ownObjs own h₁)) Ru E ρ σ t fun (_ : Unit) => Q) {Qc : Shared → Prop} {Ec : Value → Shared → Prop}
    (hq : ∀ h₁ h' tk' σ' ρ', S k h₁ → Q σ' → ρ <+: ρ' → Rel (withKp f' (ownObjs own h₁)) ρ' σ' h' → Qc (f'.st h' tk')) (hE : EP f' ρ E Ec) : wpAny (model PG f'.w) f'.A t (fun _ s₂ => Qc s₂) Ec (f'.st h₁ tk) :=
  hA h₁ tk ((R.but ap kk).keepOwn ap live) (fun _ s₂ => Qc s₂) Ec (fun _ _ σ' ρ' h' t' q k' R' _ => hq h₁ h' t' σ' ρ' hS q k' R') hE.keepOwn
end

theorem Turner.list {f : Fx} (hh0 : f.x.hx = false) {tgt : Expr} {it a : Addr} {l : Nat} {vs : List V} {ρ : List Addr} (ha : ρ[l]? = some a) (ht : ∀ it v, letOwnedTupleGo tgt it v = pure ()) :
    Turner f tgt it [it] vs.length (fun H => H[l]? = some (.list vs)) (fun x E k σ Q => ∀ v, vs[k]? = some v → TAsg x E tgt v σ Q) ρ (fun k h => h.IsListIter it a k) where
  live := fun k h hS b hb => by rw [List.mem_singleton] at hb; subst hb; obtain ⟨o, ho, _⟩ := hS; exact ⟨o, ho⟩
  frame := fun k h h' hS hk => hS.at fun o e => hk it (by simp) o e
  step := fun f' sb E k σ ρ' h tk Q hlt hL hA kk R hS ap Qc Ec hq hE => by
    obtain ⟨m, objs, fo, W⟩ := id R
    have ha' := pre_get kk ha
    obtain ⟨a', lv, n, e, h1, h2, _, hl, r, z, _⟩ := W.isList hL (va := .ref a) ⟨a, ha', rfl⟩
    cases e
    have hv : vs[k]? = some vs[k] := by simp [hlt]
    obtain ⟨u, hu, ru⟩ := r.get hv
    refine wpAny_pyNext_list_item hS hl (x := u) (by simpa using hu) fun h' hit' hs' => ?_
    refine wpAny_of_eq (ht _ _) ?_
    refine step_done (k := k + 1) (S := fun k h => h.IsListIter it a k) R ap (fun b o hb e => (hs'.2 b (fun q => hb (by simp [q]))).trans e) hit' (fun b hb => by rw [List.mem_singleton] at hb; subst hb; obtain ⟨o, ho, _⟩ := hit'; exact ⟨o, ho⟩) (hA _ hv _ _ _ rfl ru) hq hE
  done := fun f' sb σ ρ' h tk hL kk R hS ap Qc Ec hq => by
    obtain ⟨m, objs, fo, W⟩ := id R
    have ha' := pre_get kk ha
    obtain ⟨a', lv, n, e, h1, h2, _, hl, r, z, _⟩ := W.isList hL (va := .ref a) ⟨a, ha', rfl⟩
    cases e
    refine wpAny_pyNext_list_end (R.ok.hand (sb.hx.trans hh0)) hS hl (by simp [r.length]) fun h' he' => hq h' tk (R.but ap fun b o hb e => he' b o (fun q => hb (by simp [q])) e)
  self := fun f' sb k h tk Q Ec hS hQ => wpAny_pyIter_listiter hS hQ

theorem Turner.bytes {f : Fx} (hh0 : f.x.hx = false) {tgt : Expr} {it : Addr} {b : Array UInt8} {t : Tok} {xs : List Int} {ρ : List Addr} (hb : b.toList.map (fun c => (c.toNat : Int)) = xs) (ht : ∀ it v, letOwnedTupleGo tgt it v = pure ()) :
    Turner f tgt it [it] xs.length (fun _ => True) (fun x E k σ Q => ∀ v, xs[k]? = some v → TAsg x E tgt (.int v) σ Q) ρ (fun k h => KBw.IsBytesIter h it b t k) where
  live := fun k h hS b hb => by rw [List.mem_singleton] at hb; subst hb; obtain ⟨o, ho, _⟩ := hS; exact ⟨o, ho⟩
  frame := fun k h h' hS hk => let ⟨o, ho, r⟩ := hS; ⟨o, hk it (by simp) o ho, r⟩
  step := fun f' sb E k σ ρ' h tk Q hlt hL hA kk R hS ap Qc Ec hq hE => by
    have hz : xs.length = b.size := by rw [← hb]; simp
    have hkb : k < b.size := by (first | lia | omega)
    have hv : b[k]? = some b[k] := by simp [hkb]
    have hx : xs[k]? = some (b[k].toNat : Int) := by
      subst hb
      rw [List.getElem?_map]
      have : b.toList[k]? = some b[k] := by simp [hkb]
      rw [this]; rfl
    refine KBw.next_item hS hv fun h' hit' hs' => ?_
    refine wpAny_of_eq (ht _ _) ?_
    refine step_done (k := k + 1) (S := fun k h => KBw.IsBytesIter h it b t k) R ap (fun b o hb e => (hs'.2 b (fun q => hb (by simp [q]))).trans e) hit' (fun b hb => by rw [List.mem_singleton] at hb; subst hb; obtain ⟨o, ho, _⟩ := hit'; exact ⟨o, ho⟩) (hA _ hx _ _ _ rfl ⟨_, rfl⟩) hq hE
  done := fun f' sb σ ρ' h tk hL kk R hS ap Qc Ec hq => by
    have hz : xs.length = b.size := by rw [← hb]; simp
    refine KBw.next_end (R.ok.hand (sb.hx.trans hh0)) hS (by simp; (first | lia | omega)) fun h' he' => hq h' tk (R.but ap fun b o hb e => he' b o (fun q => hb (by simp [q])) e)
  self := fun f' sb k h tk Q Ec hS hQ => KBw.pyIter_self hS hQ

theorem Turner.range {f : Fx} (hh0 : f.x.hx = false) {tgt : Expr} {it : Addr} {n : Nat} {ρ : List Addr} (ht : ∀ it v, letOwnedTupleGo tgt it v = pure ()) :
    Turner f tgt it [it] n (fun _ => True) (fun x E k σ Q => TAsg x E tgt (.int k) σ Q) ρ (fun k h => IsRangeIter h it (k : Int) ((n : Int) - (k : Int)) 1) where
  live := fun k h hS b hb => by rw [List.mem_singleton] at hb; subst hb; exact ⟨_, hS⟩
  frame := fun k h h' hS hk => hk it (by simp) _ hS
  step := fun f' sb E k σ ρ' h tk Q hlt hL hA kk R hS ap Qc Ec hq hE => by
    refine wpAny_pyNext_range_item hS (by (first | lia | omega)) fun h' hit' hs' => ?_
    refine wpAny_of_eq (ht _ _) ?_
    have hit'' : IsRangeIter h' it ((k + 1 : Nat) : Int) ((n : Int) - ((k + 1 : Nat) : Int)) 1 := by
      have e1 : ((k + 1 : Nat) : Int) = (k : Int) + 1 := by push_cast; rfl
      have e2 : (n : Int) - ((k + 1 : Nat) : Int) = (n : Int) - (k : Int) - 1 := by push_cast; (first | lia | omega)
      rw [e2, e1]; exact hit'
    refine step_done (k := k + 1) (S := fun k h => IsRangeIter h it (k : Int) ((n : Int) - (k : Int)) 1) R ap (fun b o hb e => (hs'.2 b (fun q => hb (by simp [q]))).trans e) hit'' (fun b hb => by rw [List.mem_singleton] at hb; subst hb; exact ⟨_, hit'⟩) (hA _ _ _ rfl ⟨_, rfl⟩) hq hE
  done := fun f' sb σ ρ' h tk hL kk R hS ap Qc Ec hq => by
    refine wpAny_pyNext_range_end (R.ok.hand (sb.hx.trans hh0)) hS (by (first | lia | omega)) fun h' he' => hq h' tk (R.but ap fun b o hb e => he' b o (fun q => hb (by simp [q])) e)
  self := fun f' sb k h tk Q Ec hS hQ => wpAny_pyIter_rangeiter hS hQ

theorem Turner.enumList {f : Fx} (hh0 : f.x.hx = false) {elts : List Expr} {ek : Nat} {tp : Pos} {e it a : Addr} {l : Nat} {vs : List V} {ρ : List Addr} (ha : ρ[l]? = some a) (hei : e ≠ it) (hl : ∀ env, (assignEach elts env).length = 2) (hi : ∀ env, (assignEach elts env).findIdx? (·.1) = Option.none) :
    Turner f (.Tuple elts ek tp) e [e, it] vs.length (fun H => H[l]? = some (.list vs)) (fun x E k σ Q => ∀ v, vs[k]? = some v → TAsgs x E elts [.int k, v] σ Q) ρ (fun k h => (∃ old, IsEnum h e it k old) ∧ h.IsListIter it a k) where
  live := fun k h hS b hb => by
    simp at hb
    rcases hb with rfl | rfl
    · obtain ⟨⟨old, he⟩, _⟩ := hS; exact ⟨_, he⟩
    · obtain ⟨_, o, ho, _⟩ := hS; exact ⟨o, ho⟩
  frame := fun k h h' hS hk => ⟨let ⟨old, he⟩ := hS.1; ⟨old, hk e (by simp) _ he⟩, hS.2.at fun o e => hk it (by simp) o e⟩
  step := fun f' sb E k σ ρ' h tk Q hlt hL hA kk R hS ap Qc Ec hq hE => by
    obtain ⟨⟨old, he⟩, hit⟩ := hS
    obtain ⟨m, objs, fo, W⟩ := id R
    have ha' := pre_get kk ha
    obtain ⟨a', lv, n, e', h1, h2, _, hll, r, z, hga⟩ := W.isList hL (va := .ref a) ⟨a, ha', rfl⟩
    cases e'
    have hv : vs[k]? = some vs[k] := by simp [hlt]
    obtain ⟨u, hu, ru⟩ := r.get hv
    refine wpAny_pyNext_enum_item he hit hll (x := u) (by simpa using hu) hei fun h₁ heo hit₁ ht₁ hz₁ hk₁ => ?_
    refine wpAny_letOwnedTupleGo_enum heo fun h₂ he₂ hs₂ => ?_
    have heH : e < h.objs.size := Heap.lt_size he
    have hiH : it < h.objs.size := by obtain ⟨o, ho, _⟩ := hit; exact Heap.lt_size ho
    have ht₂ : IsTup h₂ h.objs.size #[.int k tk, u] := ⟨_, (hs₂.2 _ (Nat.ne_of_gt heH)).trans ht₁, rfl, _, rfl⟩
    rw [arm_assign_Tuple]
    refine wpAny_bind (wpAny_standAt ?_)
    unfold unpack
    rw [hi, hl]
    refine wpAny_bind (wpAny_holding ?_)
    refine unpackItems_tuple (items := #[.int k tk, u]) (R.ok.hand (sb.hx.trans hh0)) ht₂ fun h₃ hx₃ => ?_
    have k₃ := extBut_size hx₃
    have hsz : h₂.objs.size = h.objs.size + 1 := hs₂.1.trans hz₁
    have he₃ : IsEnum h₃ e it ((k + 1 : Nat) : Int) u := by
      have e1 : ((k + 1 : Nat) : Int) = (k : Int) + 1 := by push_cast; rfl
      rw [e1]; exact k₃ _ _ he₂
    have hit₃ : h₃.IsListIter it a (k + 1) := (hit₁.extBut hs₂.extBut (Ne.symm hei)).at fun o e => k₃ _ o e
    refine step_done (k := k + 1) (S := fun k h => (∃ old, IsEnum h e it k old) ∧ h.IsListIter it a k) R ap (fun b o hb eb => ?_) ⟨⟨_, he₃⟩, hit₃⟩ (fun b hb => ?_) (hA _ hv _ _ _ rfl (.cons ⟨_, rfl⟩ (.cons ru .nil))) hq hE
    · have hbe : b ≠ e := fun q => hb (by simp [q])
      have hbi : b ≠ it := fun q => hb (by simp [q])
      exact k₃ _ _ (hs₂.extBut b o hbe (hk₁ b o hbe hbi eb))
    · simp at hb
      rcases hb with rfl | rfl
      · exact ⟨_, he₃⟩
      · obtain ⟨o, ho, _⟩ := hit₃; exact ⟨o, ho⟩
  done := fun f' sb σ ρ' h tk hL kk R hS ap Qc Ec hq => by
    obtain ⟨⟨old, he⟩, hit⟩ := hS
    obtain ⟨m, objs, fo, W⟩ := id R
    have ha' := pre_get kk ha
    obtain ⟨a', lv, n, e', h1, h2, _, hll, r, z, hga⟩ := W.isList hL (va := .ref a) ⟨a, ha', rfl⟩
    cases e'
    refine wpAny_pyNext_enum_end (R.ok.hand (sb.hx.trans hh0)) he hit hll (by simp [r.length]) fun h' he' => hq h' tk (R.but ap fun b o hb e => he' b o (fun q => hb (by simp [q])) e)
  self := fun f' sb k h tk Q Ec hS hQ => let ⟨_, he⟩ := hS.1; wpAny_pyIter_enum he hQ

theorem Turner.enumBytes {f : Fx} (hh0 : f.x.hx = false) {elts : List Expr} {ek : Nat} {tp : Pos} {e it : Addr} {b : Array UInt8} {t : Tok} {xs : List Int} {ρ : List Addr} (hb : b.toList.map (fun c => (c.toNat : Int)) = xs) (hei : e ≠ it) (hl : ∀ env, (assignEach elts env).length = 2) (hi : ∀ env, (assignEach elts env).findIdx? (·.1) = Option.none) :
    Turner f (.Tuple elts ek tp) e [e, it] xs.length (fun _ => True) (fun x E k σ Q => ∀ v, xs[k]? = some v → TAsgs x E elts [.int k, .int v] σ Q) ρ (fun k h => (∃ old, IsEnum h e it k old) ∧ KBw.IsBytesIter h it b t k) where
  live := fun k h hS b hb => by
    simp at hb
    rcases hb with rfl | rfl
    · obtain ⟨⟨old, he⟩, _⟩ := hS; exact ⟨_, he⟩
    · obtain ⟨_, o, ho, _⟩ := hS; exact ⟨o, ho⟩
  frame := fun k h h' hS hk => ⟨let ⟨old, he⟩ := hS.1; ⟨old, hk e (by simp) _ he⟩, let ⟨o, ho, r⟩ := hS.2; ⟨o, hk it (by simp) o ho, r⟩⟩
  step := fun f' sb E k σ ρ' h tk Q hlt hL hA kk R hS ap Qc Ec hq hE => by
    obtain ⟨⟨old, he⟩, hit⟩ := hS
    have hz : xs.length = b.size := by rw [← hb]; simp
    have D := drawsBytes (prog := PG) (w := f'.w) (A := f'.A.in1) (R.ok.hand (sb.hx.trans hh0)) it b t
    refine wpAny_pyNext_enum_itemD D he hit (by (first | lia | omega)) hei (by simp [hei]) fun u h₁ tk₁ hu heo hit₁ ht₁ hz₁ hk₁ => ?_
    obtain ⟨c, tu, hc, rfl⟩ := hu
    have hx : xs[k]? = some (c.toNat : Int) := by
      rw [← hb, List.getElem?_map]
      have : b.toList[k]? = some c := by simpa using hc
      rw [this]; rfl
    refine wpAny_letOwnedTupleGo_enum heo fun h₂ he₂ hs₂ => ?_
    have heH : e < h.objs.size := Heap.lt_size he
    have ht₂ : IsTup h₂ h.objs.size #[.int k tk₁, .int (c.toNat : Int) tu] := ⟨_, (hs₂.2 _ (Nat.ne_of_gt heH)).trans ht₁, rfl, _, rfl⟩
    rw [arm_assign_Tuple]
    refine wpAny_bind (wpAny_standAt ?_)
    unfold unpack
    rw [hi, hl]
    refine wpAny_bind (wpAny_holding ?_)
    refine unpackItems_tuple (items := #[.int k tk₁, .int (c.toNat : Int) tu]) (R.ok.hand (sb.hx.trans hh0)) ht₂ fun h₃ hx₃ => ?_
    have k₃ := extBut_size hx₃
    have he₃ : IsEnum h₃ e it ((k + 1 : Nat) : Int) (.int (c.toNat : Int) tu) := by
      have e1 : ((k + 1 : Nat) : Int) = (k : Int) + 1 := by push_cast; rfl
      rw [e1]; exact k₃ _ _ he₂
    have hit₃ : KBw.IsBytesIter h₃ it b t (k + 1) := by
      obtain ⟨o, ho, r⟩ := hit₁
      exact ⟨o, k₃ _ _ (hs₂.extBut _ _ (Ne.symm hei) ho), r⟩
    refine step_done (k := k + 1) (S := fun k h => (∃ old, IsEnum h e it k old) ∧ KBw.IsBytesIter h it b t k) R ap (fun b o hb eb => ?_) ⟨⟨_, he₃⟩, hit₃⟩ (fun b hb => ?_) (hA _ hx _ _ _ rfl (.cons ⟨_, rfl⟩ (.cons ⟨_, rfl⟩ .nil))) hq hE
    · have hbe : b ≠ e := fun q => hb (by simp [q])
      have hbi : b ≠ it := fun q => hb (by simp [q])
      exact k₃ _ _ (hs₂.extBut b o hbe (hk₁ b o hbe hbi eb))
    · simp at hb
      rcases hb with rfl | rfl
      · exact ⟨_, he₃⟩
      · obtain ⟨o, ho, _⟩ := hit₃; exact ⟨o, ho⟩
  done := fun f' sb σ ρ' h tk hL kk R hS ap Qc Ec hq => by
    obtain ⟨⟨old, he⟩, hit⟩ := hS
    have hz : xs.length = b.size := by rw [← hb]; simp
    have D := drawsBytes (prog := PG) (w := f'.w) (A := f'.A.in1) (R.ok.hand (sb.hx.trans hh0)) it b t
    rw [hz] at hit
    refine wpAny_pyNext_enum_endD D he hit fun h' he' => hq h' tk (R.but ap fun b o hb e => he' b o (fun q => hb (by simp [q])) e)
  self := fun f' sb k h tk Q Ec hS hQ => let ⟨_, he⟩ := hS.1; wpAny_pyIter_enum he hQ
end
section
section
variable {x : Sx} {E : Nat → St → Prop} {σ : St}
noncomputable abbrev RIt := Nat → (List O → Prop) → (Sx → (Nat → St → Prop) → Nat → St → (St → Prop) → Prop) → St → Prop
theorem TIt.list {tgt iter : Expr} {R : RIt} (h : TE x E σ iter fun v σ₁ => ∃ l vs, v = .ref l ∧ σ₁.H[l]? = some (.list vs) ∧ R vs.length (fun H => H[l]? = some (.list vs)) (fun x E k σ Q => ∀ v, vs[k]? = some v → TAsg x E tgt v σ Q) σ₁)
    (ht : ∀ it v, letOwnedTupleGo tgt it v = pure ()) (hh0 : x.hx = false := by rfl) : TIt x E tgt σ iter R := fun f ρ h₀ tk ex R₀ Qc Ec hq hE => by
  refine (h f ρ ex) h₀ tk R₀ _ Ec ?_ hE
  rintro v v' σ₁ ρ₁ h₁ t₁ ⟨l, vs, rfl, hl, hR⟩ k₁ R₁ r₁
  obtain ⟨m, objs, fo, W⟩ := id R₁
  obtain ⟨a, lv, n, rfl, g1, g2, _, hll, r, z, _⟩ := W.isList hl r₁
  refine wpAny_pyIter_list hll ?_
  exact hq _ _ _ σ₁ ρ₁ h₁.objs.size _ _ _ t₁ hR k₁ (Turner.list (by rw [ex]; exact hh0) g1 ht) ⟨_, Heap.get?_push_size _ rfl, rfl, rfl⟩ (R₁.keeps fun _ _ e => Heap.get?_push_of_some _ e) hl R₁.apart1
theorem TIt.bytes {tgt iter : Expr} {R : RIt} (h : TE x E σ iter fun v σ₁ => ∃ xs, v = .bytes xs ∧ R xs.length (fun _ => True) (fun x E k σ Q => ∀ v, xs[k]? = some v → TAsg x E tgt (.int v) σ Q) σ₁)
    (ht : ∀ it v, letOwnedTupleGo tgt it v = pure ()) (hh0 : x.hx = false := by rfl) : TIt x E tgt σ iter R := fun f ρ h₀ tk ex R₀ Qc Ec hq hE => by
  refine (h f ρ ex) h₀ tk R₀ _ Ec ?_ hE
  rintro v v' σ₁ ρ₁ h₁ t₁ ⟨xs, rfl, hR⟩ k₁ R₁ r₁
  obtain ⟨b, t, rfl, hb, z⟩ := r₁
  refine KBw.pyIter_bytes ?_
  exact hq _ _ _ σ₁ ρ₁ h₁.objs.size _ _ _ t₁ hR k₁ (Turner.bytes (by rw [ex]; exact hh0) hb ht) ⟨_, Heap.get?_push_size _ rfl, rfl, rfl⟩ (R₁.keeps fun _ _ e => Heap.get?_push_of_some _ e) trivial R₁.apart1

/-- range(e) -/
theorem TIt.range {tgt : Expr} {n : PySem.Str} {p pos : Pos} {e : Expr} {R : RIt} (hk : x.sc.names.lookup n = some .globalImplicit) (hg : ∀ P, nsIn (hd.heap_39 P) mainGlobals n = some Option.none) (hv : bootBuiltins n = some (.type "range")) (hn : n ≠ "__name__")
    (h : TE x E σ e fun v σ₁ => ∃ k : Nat, v = .int k ∧ k ≤ 1000 ∧ R k (fun _ => True) (fun x E k σ Q => TAsg x E tgt (.int k) σ Q) σ₁) (ht : ∀ it v, letOwnedTupleGo tgt it v = pure ())
    (he : ∀ env, starEach [e] env = [(false, eval e env)]) (hdb : (n == ("__debug__" : PySem.Str)) = false) (hh0 : x.hx = false := by rfl) : TIt x E tgt σ (.Call (.Name n p) [e] [] pos) R := fun f ρ h₀ tk ex R₀ Qc Ec hq hE => by
  rw [arm_eval_Call_Name']
  refine wpAny_bind (eval_bname R₀.ok R₀.stays (by rw [ex]; exact hk) (hg _) hv hn ?_ hdb)
  have hA : TA x E σ [e] fun vs σ₁ => ∃ k : Nat, vs = [.int k] ∧ k ≤ 1000 ∧ R k (fun _ => True) (fun x E k σ Q => TAsg x E tgt (.int k) σ Q) σ₁ :=
    TA.cons ((h.mono fun v σ₁ q => TA.nil (by obtain ⟨k, rfl, hk, q⟩ := q; exact ⟨k, rfl, hk, q⟩))) he
  have z := (hA f ρ pos ex) h₀ tk R₀ (fun us s₁ => wpAny (model PG f.w) f.A (PySem.call (Value.type "range") us) (fun u s₂ => wpAny (model PG f.w) f.A (pyIter u) Qc Ec s₂) Ec s₁) Ec (fun vs us σ₁ ρ₁ h₁ t₁ q₁ k₁ R₁ r₁ => by
    obtain ⟨k, rfl, hk, q₁⟩ := q₁
    cases r₁ with
    | cons r1 r1' => cases r1' with
    | nil =>
    obtain ⟨t, rfl⟩ := r1
    refine call_range_1 ?_
    refine wpAny_pyIter_range (IsRange.new ..) (small_one (by (first | lia | omega)) (by (first | lia | omega)) (by (first | lia | omega)) (by (first | lia | omega))) ?_
    have R₂ := R₁.keeps (h' := h₁.push { cls := .type "range", data := .fields #[.int 0 t₁, .int k t, .int 1 (t₁ + 1)] }) fun _ _ e => Heap.get?_push_of_some _ e
    refine hq _ _ _ σ₁ ρ₁ _ _ _ _ (t₁ + 1 + 1) q₁ k₁ (Turner.range (by rw [ex]; exact hh0) (n := k) ht) ?_ (R₂.keeps fun _ _ e => Heap.get?_push_of_some _ e) trivial R₂.apart1
    have e1 : Builtin.Range.rangeSize 0 (k : Int) 1 = (k : Int) - ((0 : Nat) : Int) := by rw [rangeSize_one]; split <;> (first | lia | omega)
    have := Heap.get?_push_size (h₁.push { cls := .type "range", data := .fields #[.int 0 t₁, .int k t, .int 1 (t₁ + 1)] }) (o := { cls := .type "range_iterator", data := .fields #[rawInt 0, rawInt (Builtin.Range.rangeSize 0 (k : Int) 1), rawInt 1] }) rfl
    rw [e1] at this ⊢
    exact this) hE
  rw [he] at z ⊢
  exact PyProof.Rows.callWith_type rfl (Calls.evalArgs_plain z)

/-- enumerate(e), of a list or of bytes -/
theorem TIt.enum {n : PySem.Str} {p pos tp : Pos} {elts : List Expr} {ek : Nat} {e : Expr} {R : RIt} (hk : x.sc.names.lookup n = some .globalImplicit) (hg : ∀ P, nsIn (hd.heap_39 P) mainGlobals n = some Option.none) (hv : bootBuiltins n = some (.type "enumerate")) (hn : n ≠ "__name__")
    (h : TE x E σ e fun v σ₁ => (∃ l vs, v = .ref l ∧ σ₁.H[l]? = some (.list vs) ∧ R vs.length (fun H => H[l]? = some (.list vs)) (fun x E k σ Q => ∀ v, vs[k]? = some v → TAsgs x E elts [.int k, v] σ Q) σ₁) ∨
      ∃ xs, v = .bytes xs ∧ R xs.length (fun _ => True) (fun x E k σ Q => ∀ v, xs[k]? = some v → TAsgs x E elts [.int k, .int v] σ Q) σ₁)
    (he : ∀ env, starEach [e] env = [(false, eval e env)]) (hl : ∀ env, (assignEach elts env).length = 2) (hi : ∀ env, (assignEach elts env).findIdx? (·.1) = Option.none) (hdb : (n == ("__debug__" : PySem.Str)) = false) (hh0 : x.hx = false := by rfl) : TIt x E (.Tuple elts ek tp) σ (.Call (.Name n p) [e] [] pos) R := fun f ρ h₀ tk ex R₀ Qc Ec hq hE => by
  rw [arm_eval_Call_Name']
  refine wpAny_bind (eval_bname R₀.ok R₀.stays (by rw [ex]; exact hk) (hg _) hv hn ?_ hdb)
  have hA : TA x E σ [e] fun vs σ₁ => ∃ v, vs = [v] ∧ ((∃ l vs, v = .ref l ∧ σ₁.H[l]? = some (.list vs) ∧ R vs.length (fun H => H[l]? = some (.list vs)) (fun x E k σ Q => ∀ v, vs[k]? = some v → TAsgs x E elts [.int k, v] σ Q) σ₁) ∨
      ∃ xs, v = .bytes xs ∧ R xs.length (fun _ => True) (fun x E k σ Q => ∀ v, xs[k]? = some v → TAsgs x E elts [.int k, .int v] σ Q) σ₁) :=
    TA.cons ((h.mono fun v σ₁ q => TA.nil ⟨v, rfl, q⟩)) he
  have z := (hA f ρ pos ex) h₀ tk R₀ (fun us s₁ => wpAny (model PG f.w) f.A (PySem.call (Value.type "enumerate") us) (fun u s₂ => wpAny (model PG f.w) f.A (pyIter u) Qc Ec s₂) Ec s₁) Ec (fun vs us σ₁ ρ₁ h₁ t₁ q₁ k₁ R₁ r₁ => by
    obtain ⟨v, rfl, q₁⟩ := q₁
    cases r₁ with
    | cons r1 r1' => cases r1' with
    | nil =>
    rcases q₁ with ⟨l, vs, rfl, hl', q₁⟩ | ⟨xs, rfl, q₁⟩
    · obtain ⟨m, objs, fo, W⟩ := id R₁
      obtain ⟨a, lv, n, rfl, g1, g2, _, hll, r, z, _⟩ := W.isList hl' r1
      refine call_enumerate_list hll fun h' he' hit' hz' kk => ?_
      refine wpAny_pyIter_enum he' ?_
      exact hq _ _ _ σ₁ ρ₁ _ _ _ h' t₁ q₁ k₁ (Turner.enumList (by rw [ex]; exact hh0) g1 (Nat.succ_ne_self _) hl hi) ⟨⟨_, he'⟩, hit'⟩ (R₁.keeps kk) hl' R₁.apart2
    · obtain ⟨b, t, rfl, hb, z⟩ := r1
      refine call_enum_bytes fun h' he' hit' hz' kk => ?_
      refine wpAny_pyIter_enum he' ?_
      exact hq _ _ _ σ₁ ρ₁ _ _ _ h' t₁ q₁ k₁ (Turner.enumBytes (by rw [ex]; exact hh0) hb (Nat.succ_ne_self _) hl hi) ⟨⟨_, he'⟩, hit'⟩ (R₁.keeps kk) trivial R₁.apart2) hE
  rw [he] at z ⊢
  exact PyProof.Rows.callWith_type rfl (Calls.evalArgs_plain z)
end
end
section
noncomputable def frees (scope : Scope) : List PySem.Str := (scope.names.filter fun x => x.2 == .free).reverse.map (·.1)
theorem closureFor_of {scope : Scope} {env : Env} {g : PySem.Str → Addr} (h : ∀ x ∈ scope.names, x.2 = .free → env.cells.lookup x.1 = some (g x.1)) : closureFor scope env = pure ((frees scope).map fun n => (n, g n)) := by
  have gen : ∀ (l : List (PySem.Str × NameKind)) (acc : List (PySem.Str × Addr)), (∀ x ∈ l, x.2 = .free → env.cells.lookup x.1 = some (g x.1)) →
      (forIn l acc fun (x : PySem.Str × NameKind) (cs : List (PySem.Str × Addr)) => (do
        let (name, kind) := x
        if kind == .free then do
          let c ← cellOf env name
          pure (ForInStep.yield ((name, c) :: cs))
        else pure (ForInStep.yield cs) : Sem _)) = pure ((((l.filter fun x => x.2 == .free).reverse.map (·.1)).map fun n => (n, g n)) ++ acc) := by
    intro l
    induction l with
    | nil => intro acc _; rfl
    | cons x l ih =>
      intro acc hx
      obtain ⟨n, k⟩ := x
      rw [List.forIn_cons]
      by_cases q : (k == NameKind.free) = true
      · have hk : k = .free := by simpa using q
        have hc := hx (n, k) (List.mem_cons_self ..) hk
        show ((if (k == NameKind.free) = true then (do let c ← cellOf env n; pure (ForInStep.yield ((n, c) :: acc))) else pure (ForInStep.yield acc) : Sem _) >>= _) = _
        rw [if_pos q]
        unfold cellOf
        rw [show env.cells.lookup n = some (g n) from hc]
        refine (ih ((n, g n) :: acc) fun y hy => hx y (List.mem_cons_of_mem _ hy)).trans ?_
        simp [hk]
      · show ((if (k == NameKind.free) = true then (do let c ← cellOf env n; pure (ForInStep.yield ((n, c) :: acc))) else pure (ForInStep.yield acc) : Sem _) >>= _) = _
        rw [if_neg q]
        refine (ih acc fun y hy => hx y (List.mem_cons_of_mem _ hy)).trans ?_
        have q' : (k == NameKind.free) = false := by simpa using q
        simp [q']
  unfold closureFor
  have := gen scope.names [] h
  simp only [List.append_nil] at this
  simp only [frees]
  rw [← this]
  simp only [bind_pure]

noncomputable def compSx (x : Sx) (scope : Scope) : Sx :=
  ⟨{ scope with names := scope.names.map fun (n, k) => if (k == .free && x.sc.kind == .function && x.sc.names.lookup n == some .cell) then (n, .cell) else (n, k) }, (frees scope).filterMap fun n => (x.cells.lookup n).map (n, ·), x.d, x.hx, false⟩

section
variable {prog : Program} {w : World} {A : Around} {E : Value → Shared → Prop} {R : Result → Shared → Prop} {s : Shared}
theorem codeAny_compLoop_any {elt target iter : Expr} {ifs : List Expr} {scope : Scope} {pos : Pos} {it acc : Value} {env : Env} (I : Nat → Shared → Prop)
    (turn : ∀ n s, I n s → wpAny (model prog w) A (pyNext it) (fun r s₁ => match r with
      | none => R (.ok .next) s₁
      | some v => wpAny (model prog w) A (letOwnedTupleGo target it v) (fun _ s₁' => wpAny (model prog w) A (assign target env v) (fun _ s₂ =>
          wpAny (model prog w) A (forIn ifs true fun c r => if r = true then do let ok ← isTrue c env (eval c env); pure (ForInStep.yield ok) else pure (ForInStep.yield r)) (fun ok s₃ =>
            if ok = true then wpAny (model prog w) A (eval elt env) (fun x s₄ =>
              wpAny (model prog w) A (call (.builtin "list.append") [acc, x]) (fun _ s₅ => ∃ m, m < n ∧ I m s₅) (notedBy (model prog w) A env fun e s' => R (.error e) s') s₄) (notedBy (model prog w) A env fun e s' => R (.error e) s') s₃
            else ∃ m, m < n ∧ I m s₃) (notedBy (model prog w) A env fun e s' => R (.error e) s') s₂) (notedBy (model prog w) A env fun e s' => R (.error e) s') s₁') (notedBy (model prog w) A env fun e s' => R (.error e) s') s₁) (notedBy (model prog w) A env fun e s' => R (.error e) s') s)
    (n : Nat) (h : I n s) :
    codeAny (model prog w) A (.compLoop (.ListComp elt [⟨target, iter, ifs, 0⟩] scope pos) 0 it acc env) R s := by
  refine codeAny_loop rfl I (fun n s hI => ?_) n h
  show wpAny _ A ((compTurn (.ListComp elt [⟨target, iter, ifs, 0⟩] scope pos) 0 it acc env).onRaise (fun x => do noteFrame x env; theTreesLotGoes x)) _ _ s
  refine wpAny_noted ?_
  rw [compTurn_list]
  refine wpAny_bind (wpAny_standAt (wpAny_bind (wpAny_mono (turn n s hI) (fun r s₁ h₁ => ?_) fun _ _ h' => h')))
  cases r with
  | none => exact wpAny_pure h₁
  | some v =>
    refine wpAny_bind (wpAny_mono h₁ (fun _ s₁' h₁' => ?_) fun _ _ h' => h')
    refine wpAny_bind (wpAny_mono h₁' (fun _ s₂ h₂ => wpAny_bind (wpAny_mono h₂ (fun ok s₃ h₃ => ?_) fun _ _ h' => h')) fun _ _ h' => h')
    cases ok with
    | false => exact wpAny_pure ⟨rfl, h₃⟩
    | true =>
      exact wpAny_bind (wpAny_bind (wpAny_mono h₃ (fun x s₄ h₄ => wpAny_bind (wpAny_mono h₄ (fun _ s₅ h₅ => wpAny_pure (wpAny_pure ⟨rfl, h₅⟩)) fun _ _ h' => h')) fun _ _ h' => h'))
end

noncomputable def compCl (scope : Scope) (env : Env) : List (PySem.Str × Addr) := (frees scope).map fun n => (n, (env.cells.lookup n).getD 0)
theorem closureFor_comp {f : Fx} {ρ : List Addr} {σ : St} {h : Heap} (R : Rel f ρ σ h) {scope : Scope} (hfree : ∀ y ∈ scope.names, y.2 = .free → (f.x.cells.lookup y.1).isSome = true) : closureFor scope f.ev = pure (compCl scope f.ev) :=
  closureFor_of fun y hy hk => by
    obtain ⟨m, objs, fo, W⟩ := R
    obtain ⟨i, hi⟩ := Option.isSome_iff_exists.mp (hfree y hy hk)
    obtain ⟨c, h1, h2⟩ := W.cells y.1 i hi
    rw [h1]; rfl
noncomputable def EN : Nat → St → Prop := fun _ _ => False
noncomputable def TTests (x : Sx) (ifs : List Expr) (σ : St) (Q : Bool → St → Prop) : Prop := match ifs with | [] => Q true σ | [c] => TB x EN σ c Q | _ => False

section
variable {f : Fx} {ρ : List Addr} {σ : St} {h : Heap} {m : PySem.Str → Option Value} {objs fo : List Obj}
theorem RelW.back_at (W : RelW f ρ σ h m objs fo) {f' : Fx} {ρ' : List Addr} {σ' : St} {h' : Heap} (eb : f'.base = f.base) (ew : f'.w = f.w) (eo : f'.os = (f.L, m) :: f.os) (ek : f'.kp = f.kp) (hp : ρ <+: ρ')
    (R' : Rel f' ρ' σ' h') : Rel f ρ' ⟨σ.loc, σ'.H⟩ h' ∧ Apart f ρ' [f'.L] := by
  refine ⟨W.back eb ew eo ek hp R', by simp, fun b hb q => ?_, fun b hb => ?_⟩
  · rw [List.mem_singleton] at hb
    subst hb
    obtain ⟨m', objs', fo', W'⟩ := R'
    have q' : f'.L ∈ f'.os.map (·.1) ++ (f'.kp.map (·.1) ++ ρ') := by
      rw [eo, ek]
      exact q
    rw [← W'.all1] at q'
    obtain ⟨p, hp, e⟩ := List.mem_map.mp q'
    exact (W'.news p hp).2.1 e
  · rw [List.mem_singleton] at hb
    subst hb
    obtain ⟨m', objs', fo', W'⟩ := R'
    rw [← eb]
    cases q : f'.base.get? f'.L with
    | none => rfl
    | some o => exact absurd (Nat.lt_of_lt_of_le (Heap.lt_size q) W'.fr.above) (Nat.lt_irrefl _)
end

/-- the loop of a list comprehension, in its own set of names -/
theorem comp_core {f : Fx} {ρ₁ : List Addr} {σ₁ : St} {h₁ : Heap} {t₁ : Nat} {elt tgt iter : Expr} {ifs : List Expr} {scope : Scope} {pos : Pos} {it : Addr} {own : List Addr} {n : Nat} {L : List O → Prop} {A : Sx → (Nat → St → Prop) → Nat → St → (St → Prop) → Prop} {S : Nat → Heap → Prop}
    (R₁ : Rel f ρ₁ σ₁ h₁) (T : Turner f tgt it own n L A ρ₁ S) (S0 : S 0 h₁) (ap : Apart f ρ₁ own) (hcell : ∀ y ∈ scope.names, y.2 ≠ .cell) (hkind : scope.kind = .function) (hfree : ∀ y ∈ scope.names, y.2 = .free → (f.x.cells.lookup y.1).isSome = true)
    {J : Nat → St → Prop} (J0 : J 0 ⟨[], σ₁.H ++ [.list []]⟩) (JL : ∀ i σ', J i σ' → L σ'.H)
    (Js : ∀ i σ', i < n → J i σ' → A (compSx f.x scope) EN i σ' fun σ₂ => TTests (compSx f.x scope) ifs σ₂ fun ok σ₃ => if ok then TE (compSx f.x scope) EN σ₃ elt fun y σ₄ => ∃ ys, σ₄.H[σ₁.H.length]? = some (.list ys) ∧ ys.length < 2 ^ 20 ∧ J (i + 1) ⟨σ₄.loc, σ₄.H.set σ₁.H.length (.list (ys ++ [y]))⟩ else J (i + 1) σ₃)
    {E : Value → Shared → Prop} {RR : Value → Addr → Result → Shared → Prop}
    (hR : ∀ σ' ρ' h' t' D C, J n σ' → ρ₁ <+: ρ' → ρ'[σ₁.H.length]? = some D → Rel f ρ' ⟨σ₁.loc, σ'.H⟩ h' → Apart f ρ' [C] → (∃ m', h'.Ns C m') → RR (.ref D) C (.ok .next) (f.st h' t')) :
    wpAny (model PG f.w) f.A (newList []) (fun acc s₃ => wpAny (model PG f.w) f.A (newFunctionEnv scope f.ev.globals (compCl scope f.ev) [] f.ev.qual none .none (some f.ev)) (fun cenv s₄ =>
      codeAny (model PG f.w) f.A (.compStart (.ListComp elt [⟨tgt, iter, ifs, 0⟩] scope pos) 0 (.ref it) acc { cenv with scope := relabel scope f.ev }) (RR acc cenv.locals) s₄) E s₃) E (f.st h₁ t₁) := by
  obtain ⟨m₀, objs₀, fo₀, W₀⟩ := id R₁
  have ok := R₁.ok
  generalize hgl : compCl scope f.ev = cl
  refine wpAny_newObj_type (wpAny_newFunctionEnv hcell (by intro y hy; simp at hy) (fun h₃ hns₃ hsb₃ => ?_) hkind)
  have R₂ : Rel f (ρ₁ ++ [h₁.objs.size]) ⟨σ₁.loc, σ₁.H ++ [.list []]⟩ (h₁.push { cls := .type "list", dict := none, data := .seq ([] : List Value).toArray }) := R₁.new (x := .list []) ⟨[], 0, rfl, .nil, by simp⟩ rfl
  have gD := R₁.get_new h₁.objs.size
  simp only [Fx.st] at hns₃ hsb₃ ⊢
  generalize hH2 : h₁.push { cls := .type "list", dict := none, data := .seq ([] : List Value).toArray } = h₂ at R₂ hns₃ hsb₃ ⊢
  have hC : h₂.objs.size = h₁.objs.size + 1 := by rw [← hH2, Heap.size_push]
  have k12 : ∀ b o, h₁.get? b = some o → h₂.get? b = some o := fun b o e => by rw [← hH2]; exact Heap.get?_push_of_some _ e
  have k23 : ∀ b o, h₂.get? b = some o → h₃.get? b = some o := fun b o e => hsb₃.extBut b o (Nat.ne_of_lt (Heap.lt_size e)) (Heap.get?_push_of_some _ e)
  have live0 := T.live _ _ S0
  have S0₃ : S 0 h₃ := T.frame _ _ _ S0 fun b _ o e => k23 _ _ (k12 _ _ e)
  obtain ⟨m, objs, fo, W⟩ := id R₂
  generalize hf' : ({ f with x := compSx f.x scope, ev := compEnvC scope cl h₂.objs.size f.ev, L := h₂.objs.size, os := (f.L, m) :: f.os } : Fx) = f'
  have e'x : f'.x = compSx f.x scope := by rw [← hf']
  have e'w : f'.w = f.w := by rw [← hf']
  have e'A : f'.A = f.A := by rw [← hf']
  have e'b : f'.base = f.base := by rw [← hf']
  have e's : f'.s₀ = f.s₀ := by rw [← hf']
  have e'e : f'.ev = compEnvC scope cl h₂.objs.size f.ev := by rw [← hf']
  have e'L : f'.L = h₂.objs.size := by rw [← hf']
  have e'o : f'.os = (f.L, m) :: f.os := by rw [← hf']
  have e'k : f'.kp = f.kp := by rw [← hf']
  have ok' : ({ f with x := ⟨(compSx f.x scope).sc, [], f.x.d, f.x.hx, false⟩, ev := compEnvC scope cl h₂.objs.size f.ev, L := h₂.objs.size, os := (f.L, m) :: f.os } : Fx).Ok := by
    refine ⟨ok.ki, ok.top, hkind, ?_, rfl, ok.glob, ok.blt, ok.frm, ok.fr, ok.hand, ok.guards, fun env he => ?_, fun z => (by cases z), ok.depth, ok.units⟩
    · show relabel scope f.ev = (compSx f.x scope).sc
      unfold relabel compSx
      rw [← ok.sc]
      rfl
    · obtain ⟨h1, L', h2, h3⟩ := ok.frs env he
      refine ⟨h1, L', h2, .inr ?_⟩
      show L' ∈ f.L :: f.os.map (·.1)
      rcases h3 with rfl | h3
      · exact List.mem_cons_self ..
      · exact List.mem_cons_of_mem _ h3
  obtain ⟨oL, W'⟩ := W.enter (f' := { f with x := ⟨(compSx f.x scope).sc, [], f.x.d, f.x.hx, false⟩, ev := compEnvC scope cl h₂.objs.size f.ev, L := h₂.objs.size, os := (f.L, m) :: f.os }) (loc' := []) ok' rfl rfl rfl rfl (Nat.le_refl _) hns₃ k23 (fun x V e => by cases e) rfl
  have R₃ : Rel f' (ρ₁ ++ [h₁.objs.size]) ⟨[], σ₁.H ++ [.list []]⟩ h₃ := by
    rw [← hf']
    refine ⟨_, objs, oL :: fo, ⟨⟨ok'.ki, ok'.top, ok'.kind, ok'.sc, ok'.loc, ok'.glob, ok'.blt, ok'.frm, ok'.fr, ok'.hand, ok'.guards, ok'.frs, ok'.fe, ok'.depth, ok'.units⟩, W'.fr, W'.loc, W'.news, W'.ns, W'.obj, W'.len, W'.nd, fun y i e => ?_⟩⟩
    have e : ((frees scope).filterMap fun n => (f.x.cells.lookup n).map (n, ·)).lookup y = some i := e
    have hy : y ∈ frees scope ∧ f.x.cells.lookup y = some i := by
      have aux : ∀ (l : List PySem.Str), (l.filterMap fun n => (f.x.cells.lookup n).map (n, ·)).lookup y = some i → y ∈ l ∧ f.x.cells.lookup y = some i := by
        intro l
        induction l with
        | nil => intro e; cases e
        | cons a l ih =>
          intro e
          rw [List.filterMap_cons] at e
          cases q : f.x.cells.lookup a with
          | none => rw [q] at e; obtain ⟨z1, z2⟩ := ih e; exact ⟨List.mem_cons_of_mem _ z1, z2⟩
          | some j =>
            rw [q] at e
            simp only [Option.map_some, List.lookup_cons] at e
            by_cases z : (y == a) = true
            · simp only [z] at e
              cases e
              rw [beq_iff_eq] at z
              subst z
              exact ⟨List.mem_cons_self .., q⟩
            · have z' : (y == a) = false := by simpa using z
              simp only [z'] at e
              obtain ⟨z1, z2⟩ := ih e
              exact ⟨List.mem_cons_of_mem _ z1, z2⟩
      exact aux _ e
    obtain ⟨c, h1, h2⟩ := W₀.cells y i hy.2
    refine ⟨c, ?_, pre_get ⟨[h₁.objs.size], rfl⟩ h2⟩
    show cl.lookup y = some c
    rw [← hgl]
    unfold compCl
    have aux : ∀ (l : List PySem.Str), y ∈ l → (l.map fun n => (n, (f.ev.cells.lookup n).getD 0)).lookup y = some c := by
      intro l
      induction l with
      | nil => intro e; cases e
      | cons a l ih =>
        intro e
        rw [List.map_cons, List.lookup_cons]
        by_cases z : (y == a) = true
        · simp only [z]
          rw [beq_iff_eq] at z
          subst z
          rw [h1]
          rfl
        · have z' : (y == a) = false := by simpa using z
          simp only [z']
          rcases List.mem_cons.mp e with e | e
          · rw [e] at z'; simp at z'
          · exact ih e
    exact aux _ hy.1
  have ap₃ : Apart f' (ρ₁ ++ [h₁.objs.size]) own := by
    refine ⟨ap.nd, fun b hb q => ?_, fun b hb => by rw [e'b]; exact ap.new b hb⟩
    have hlt : b < h₁.objs.size := by obtain ⟨o, ho⟩ := live0 b hb; exact Heap.lt_size ho
    unfold tracked at q
    rw [e'L, e'o, e'k] at q
    rcases List.mem_cons.mp q with q | q
    · rw [q, hC] at hlt; exact Nat.lt_irrefl _ (Nat.lt_of_succ_lt hlt)
    · have q : b ∈ f.L :: (f.os.map (·.1) ++ (f.kp.map (·.1) ++ (ρ₁ ++ [h₁.objs.size]))) := q
      refine ap.off b hb ?_
      rcases List.mem_cons.mp q with q | q
      · exact q ▸ List.mem_cons_self ..
      · refine List.mem_cons_of_mem _ ?_
        rcases List.mem_append.mp q with q | q
        · exact List.mem_append_left _ q
        · refine List.mem_append_right _ ?_
          rcases List.mem_append.mp q with q | q
          · exact List.mem_append_left _ q
          · rcases List.mem_append.mp q with q | q
            · exact List.mem_append_right _ q
            · rw [List.mem_singleton] at q
              rw [q] at hlt
              exact absurd hlt (Nat.lt_irrefl _)
  have sb : Sib f f' := ⟨e'w, e'b, e'A, by rw [e'x]; rfl, e's⟩
  have fin : ∀ σ' ρ' h' t', J n σ' → ρ₁ ++ [h₁.objs.size] <+: ρ' → Rel f' ρ' σ' h' → RR (.ref h₁.objs.size) h₂.objs.size (.ok .next) (f.st h' t') := by
    intro σ' ρ' h' t' hJ kk R'
    obtain ⟨RB, AB⟩ := W.back_at e'b e'w e'o e'k kk R'
    rw [e'L] at AB
    refine hR σ' ρ' h' t' _ _ hJ ((List.prefix_append _ _).trans kk) (pre_get kk gD) RB AB ?_
    obtain ⟨m', objs', fo', W''⟩ := R'
    exact ⟨m', e'L ▸ W''.fr.ns⟩
  have noE : ∀ {α : Type} {t : Sem α} {Q : α → Shared → Prop} {E' : Value → Shared → Prop} {s : Shared}, wpAny (model PG f'.w) f'.A t Q (fun _ _ => False) s → wpAny (model PG f.w) f.A t Q E' s := fun h => by
    rw [e'w, e'A] at h
    exact wpAny_mono h (fun _ _ q => q) fun _ _ q => q.elim
  have loop : codeAny (model PG f.w) f.A (.compLoop (.ListComp elt [⟨tgt, iter, ifs, 0⟩] scope pos) 0 (.ref it) (.ref h₁.objs.size) f'.ev) (RR (.ref h₁.objs.size) h₂.objs.size) (f.st h₃ (t₁ + ([] : List (PySem.Str × Value)).length)) := by
    obtain ⟨Inv, hInv⟩ : ∃ Inv : Nat → Shared → Prop, Inv = fun k s' => ∃ i σ' ρ' h' t', k = n + 1 - i ∧ i ≤ n ∧ s' = f.st h' t' ∧ J i σ' ∧ (ρ₁ ++ [h₁.objs.size]) <+: ρ' ∧ Rel f' ρ' σ' h' ∧ S i h' ∧ Apart f' ρ' own := ⟨_, rfl⟩
    refine codeAny_compLoop_any Inv ?_ (n + 1) (hInv ▸ ⟨0, ⟨[], σ₁.H ++ [.list []]⟩, _, h₃, _, rfl, Nat.zero_le _, rfl, J0, List.prefix_refl _, R₃, S0₃, ap₃⟩)
    intro k s' hI
    rw [hInv] at hI
    obtain ⟨i, σ', ρ', h', t', rfl, hi, rfl, hJ, kk, R', hS, ap'⟩ := hI
    have kk₁ := (List.prefix_append ρ₁ [h₁.objs.size]).trans kk
    by_cases hlt : i < n
    · have hA := Js i σ' hlt hJ
      rw [← e'x] at hA
      have z := T.step f' sb EN i σ' ρ' h' t' _ hlt (JL i σ' hJ) hA kk₁ R' hS ap' (fun s₂ =>
          wpAny (model PG f'.w) f'.A (forIn ifs true fun c r => if r = true then do let ok ← isTrue c f'.ev (eval c f'.ev); pure (ForInStep.yield ok) else pure (ForInStep.yield r)) (fun ok s₃ =>
            if ok = true then wpAny (model PG f'.w) f'.A (eval elt f'.ev) (fun x s₄ =>
              wpAny (model PG f'.w) f'.A (call (.builtin "list.append") [.ref h₁.objs.size, x]) (fun _ s₅ => ∃ m, m < n + 1 - i ∧ Inv m s₅) (fun _ _ => False) s₄) (fun _ _ => False) s₃
            else ∃ m, m < n + 1 - i ∧ Inv m s₃) (fun _ _ => False) s₂) (fun _ _ => False) ?_ EP.never
      · rw [sb.st] at z
        refine wpAny_mono (noE z) (fun r s₁ hr => ?_) fun _ _ y => y
        cases r with
        | none => exact hr.elim
        | some v => exact wpAny_mono (noE hr) (fun _ s₁' hr' => wpAny_mono (noE hr') (fun _ s₂ hr₂ => wpAny_mono (noE hr₂) (fun ok s₃ hr₃ => by
            cases ok with
            | false => exact hr₃
            | true => exact wpAny_mono (noE hr₃) (fun x s₄ hr₄ => noE hr₄) fun _ _ y => y) fun _ _ y => y) fun _ _ y => y) fun _ _ y => y
      · intro h₄ h₅ t₅ σ₅ ρ₅ S₄ q₅ k₅ R₅
        have lv := T.live _ _ S₄
        have ap₅ : Apart f' ρ₅ own := ⟨ap'.nd, fun b hb => by
          obtain ⟨o, ho⟩ := lv b hb
          exact (R₅.dropOwn).2.2 (b, o) (ownObjs_mem.mpr ⟨hb, ho⟩), ap'.new⟩
        have hT : ∀ Qc : Bool → Shared → Prop, (∀ b σ' ρ' h' t', (if b then TE f'.x EN σ' elt fun y σ₄ => ∃ ys, σ₄.H[σ₁.H.length]? = some (.list ys) ∧ ys.length < 2 ^ 20 ∧ J (i + 1) ⟨σ₄.loc, σ₄.H.set σ₁.H.length (.list (ys ++ [y]))⟩ else J (i + 1) σ') → ρ₅ <+: ρ' → Rel (withKp f' (ownObjs own h₄)) ρ' σ' h' → Qc b (f'.st h' t')) →
            wpAny (model PG f'.w) f'.A (forIn ifs true fun c r => if r = true then do let ok ← isTrue c f'.ev (eval c f'.ev); pure (ForInStep.yield ok) else pure (ForInStep.yield r)) Qc (fun _ _ => False) (f'.st h₅ t₅) := by
          intro Qc hQ
          unfold TTests at q₅
          split at q₅
          · exact wpAny_tests_nil (hQ true σ₅ ρ₅ h₅ t₅ q₅ (List.prefix_refl _) R₅)
          · refine wpAny_tests_one ((q₅ (withKp f' (ownObjs own h₄)) ρ₅ rfl) h₅ t₅ R₅ Qc (fun _ _ => False) ?_ EP.never)
            intro b b' σ₆ ρ₆ h₆ t₆ q₆ k₆ R₆ r₆
            cases r₆
            exact hQ b σ₆ ρ₆ h₆ t₆ q₆ k₆ R₆
          · exact q₅.elim
        refine hT _ ?_
        intro b σ₆ ρ₆ h₆ t₆ q₆ k₆ R₆
        cases b with
        | false =>
          simp only [Bool.false_eq_true, if_false] at q₆ ⊢
          have S₆ := T.frame _ _ _ S₄ (kept_own R₆)
          exact ⟨n + 1 - (i + 1), by (first | lia | omega), hInv ▸ ⟨i + 1, σ₆, ρ₆, h₆, t₆, rfl, hlt, by rw [← sb.st], q₆, kk.trans (k₅.trans k₆), R₆.dropOwn.1, S₆, ap₅.more lv R₆⟩⟩
        | true =>
          simp only [if_true] at q₆ ⊢
          refine (q₆ (withKp f' (ownObjs own h₄)) ρ₆ rfl) h₆ t₆ R₆ _ (fun _ _ => False) ?_ EP.never
          intro y y' σ₇ ρ₇ h₇ t₇ q₇ k₇ R₇ r₇
          obtain ⟨ys, hys, hz, q₇⟩ := q₇
          have gD₇ : ρ₇[σ₁.H.length]? = some h₁.objs.size := pre_get (kk.trans (k₅.trans (k₆.trans k₇))) gD
          refine (CallB.append (x := f'.x) (E := EN) (Q := fun v σ => v = .none ∧ J (i + 1) σ) hys hz ⟨rfl, q₇⟩ (withKp f' (ownObjs own h₄)) ρ₇ [.ref h₁.objs.size, y'] rfl (.cons ⟨_, gD₇, rfl⟩ (.cons r₇ .nil))) h₇ t₇ R₇ _ (fun _ _ => False) ?_ EP.never
          intro _ _ σ₈ ρ₈ h₈ t₈ q₈ k₈ R₈ _
          have S₈ := T.frame _ _ _ S₄ (kept_own R₈)
          exact ⟨n + 1 - (i + 1), by (first | lia | omega), hInv ▸ ⟨i + 1, σ₈, ρ₈, h₈, t₈, rfl, hlt, by rw [← sb.st]; rfl, q₈.2, kk.trans (k₅.trans (k₆.trans (k₇.trans k₈))), R₈.dropOwn.1, S₈, ap₅.more lv R₈⟩⟩
    · have hin : i = n := by (first | lia | omega)
      subst hin
      have z := T.done f' sb σ' ρ' h' t' (JL i σ' hJ) kk₁ R' hS ap' (fun s => RR (.ref h₁.objs.size) h₂.objs.size (.ok .next) s) (fun _ _ => False) fun h₆ t₆ R₆ => by
        rw [sb.st]; exact fin σ' ρ' h₆ t₆ hJ kk R₆
      rw [sb.st] at z
      refine wpAny_mono (noE z) (fun r s₁ hr => ?_) fun _ _ y => y
      cases r with
      | none => exact hr
      | some v => exact hr.elim
  have st := T.self f' sb 0 h₃ (t₁ + ([] : List (PySem.Str × Value)).length) (fun v s => codeAny (model PG f.w) f.A (.compLoop (.ListComp elt [⟨tgt, iter, ifs, 0⟩] scope pos) 0 v (.ref h₁.objs.size) f'.ev) (RR (.ref h₁.objs.size) h₂.objs.size) s) (fun _ _ => False) S0₃ (by rw [sb.st]; exact loop)
  rw [sb.st] at st
  rw [e'e] at loop st
  exact codeAny_compStart_list loop (by rw [e'w, e'A] at st; exact wpAny_mono st (fun _ _ q => q) fun _ _ q => q.elim)

section
variable {x : Sx} {E : Nat → St → Prop} {σ : St}
/-- what a comprehension needs of its loop -/
noncomputable def TLoop (x : Sx) (elt : Expr) (ifs : List Expr) (scope : Scope) (n : Nat) (L : List O → Prop) (A : Sx → (Nat → St → Prop) → Nat → St → (St → Prop) → Prop) (σ₁ : St) (Q : St → Prop) : Prop :=
  ∃ J : Nat → St → Prop, J 0 ⟨[], σ₁.H ++ [.list []]⟩ ∧ (∀ i σ', J i σ' → L σ'.H) ∧
    (∀ i σ', i < n → J i σ' → A (compSx x scope) EN i σ' fun σ₂ => TTests (compSx x scope) ifs σ₂ fun ok σ₃ => if ok then TE (compSx x scope) EN σ₃ elt fun y σ₄ => ∃ ys, σ₄.H[σ₁.H.length]? = some (.list ys) ∧ ys.length < 2 ^ 20 ∧ J (i + 1) ⟨σ₄.loc, σ₄.H.set σ₁.H.length (.list (ys ++ [y]))⟩ else J (i + 1) σ₃) ∧
    ∀ σ', J n σ' → Q ⟨σ₁.loc, σ'.H⟩
theorem TE.comp {elt tgt iter : Expr} {ifs : List Expr} {scope : Scope} {pos : Pos} {Q : V → St → Prop} (h : TIt x E tgt σ iter fun n L A σ₁ => TLoop x elt ifs scope n L A σ₁ fun σ₂ => Q (.ref σ₁.H.length) σ₂)
    (hs : ∀ env u, foldedSetIterable iter env u = pure u) (hcell : ∀ y ∈ scope.names, y.2 ≠ .cell) (hkind : scope.kind = .function) (hfree : ∀ y ∈ scope.names, y.2 = .free → (x.cells.lookup y.1).isSome = true) (hnames : ∀ y ∈ scope.names, y.2 = .local → scope.names.lookup y.1 = some .local) :
    TE x E σ (.ListComp elt [⟨tgt, iter, ifs, 0⟩] scope pos) Q := fun f ρ e hh tk R Qc Ec hq hE => by
  subst e
  rw [eval_ListComp]
  refine wpAny_comprehension_free (e := .ListComp elt [⟨tgt, iter, ifs, 0⟩] scope pos) (g := ⟨tgt, iter, ifs, 0⟩) (gs := []) (use := Option.none) rfl (hs _) (closureFor_comp R hfree) hkind hnames ((h f ρ hh tk rfl R) _ Ec ?_ hE)
  rintro n L A σ₁ ρ₁ it own S h₁ t₁ ⟨J, J0, JL, Js, Je⟩ k₁ T S0 R₁ hL ap
  refine comp_core R₁ T S0 ap hcell hkind hfree J0 JL Js (RR := fun acc C => compPost (model PG f.w) f.A Ec Option.none Qc acc C) ?_
  intro σ' ρ' h' t' D C hJ kk gD R' apC hNs
  obtain ⟨m', hn⟩ := hNs
  refine ⟨m', hn, fun h'' hs'' => ?_⟩
  exact hq _ _ _ ρ' h'' t' (Je σ' hJ) (k₁.trans kk) (R'.but apC fun b o hb e => (hs''.2 b (fun q => hb (by simp [q]))).trans e) ⟨D, gD, rfl⟩

/-- name = [...], on one line: the name is stored before the comprehension's names go -/
theorem TS.asgComp {n : PySem.Str} {np : Pos} {elt tgt iter : Expr} {ifs : List Expr} {scope : Scope} {pos p : Pos} {Q : Fl → St → Prop} (h : TIt x E tgt σ iter fun n' L A σ₁ => TLoop x elt ifs scope n' L A σ₁ fun σ₂ => TAsg x E (.Name n np) (.ref σ₁.H.length) σ₂ fun σ₃ => Q .next σ₃)
    (hsw : ∀ env : Env, env.scope = x.sc → swapsWith (.ListComp elt [⟨tgt, iter, ifs, 0⟩] scope pos) (some (.Name n np)) p.line env = pure true)
    (hs : ∀ env u, foldedSetIterable iter env u = pure u) (hcell : ∀ y ∈ scope.names, y.2 ≠ .cell) (hkind : scope.kind = .function) (hfree : ∀ y ∈ scope.names, y.2 = .free → (x.cells.lookup y.1).isSome = true) (hnames : ∀ y ∈ scope.names, y.2 = .local → scope.names.lookup y.1 = some .local) :
    TS x E σ (.Assign [.Name n np] (.ListComp elt [⟨tgt, iter, ifs, 0⟩] scope pos) p) Q := fun f ρ e hh tk R Qc Ec hq hE => by
  subst e
  rw [exec_Assign_Name_used _ _ _ _ (hsw _ R.ok.sc)]
  refine wpAny_bind (wpAny_standAt (wpAny_bind ?_))
  rw [arm_evalThenUse_ListComp]
  refine wpAny_bind ?_
  refine wpAny_comprehension_free (e := .ListComp elt [⟨tgt, iter, ifs, 0⟩] scope pos) (g := ⟨tgt, iter, ifs, 0⟩) (gs := []) (use := some (assign (.Name n np) f.ev)) rfl (hs _) (closureFor_comp R hfree) hkind hnames ((h f ρ hh tk rfl R) _ Ec ?_ hE)
  rintro n' L A σ₁ ρ₁ it own S h₁ t₁ ⟨J, J0, JL, Js, Je⟩ k₁ T S0 R₁ hL ap
  refine comp_core R₁ T S0 ap hcell hkind hfree J0 JL Js (RR := fun acc C => compPost (model PG f.w) f.A Ec (some (assign (.Name n np) f.ev)) _ acc C) ?_
  intro σ' ρ' h' t' D C hJ kk gD R' apC hNs
  obtain ⟨m', hn⟩ := hNs
  have live : ∀ b ∈ [C], ∃ o, h'.get? b = some o := fun b hb => by
    rw [List.mem_singleton] at hb; subst hb
    obtain ⟨o, es, ep, ho, _⟩ := hn; exact ⟨o, ho⟩
  refine ((Je σ' hJ) (withKp f (ownObjs [C] h')) ρ' (.ref D) rfl ⟨D, gD, rfl⟩) h' t' (R'.keepOwn apC live) _ Ec ?_ ((hE.mono (k₁.trans kk)).keepOwn)
  intro _ _ σ₂ ρ₂ h₂ t₂ q₂ k₂ R₂ _
  obtain ⟨o, es, ep, ho, hr⟩ := hn
  refine ⟨m', ⟨o, es, ep, kept_own R₂ C (by simp) _ ho, hr⟩, fun h'' hs'' => ?_⟩
  have ap₂ := apC.more live R₂
  exact wpAny_pure (wpAny_pure (hq .next _ σ₂ ρ₂ h'' t₂ q₂ (k₁.trans (kk.trans k₂)) (R₂.dropOwn.1.but ap₂ fun b o hb e => (hs''.2 b (fun q => hb (by simp [q]))).trans e) rfl))
end
end
section
theorem All2.flat_rep {B : Heap} {ρ : List Addr} {vs : List V} {l : List Value} (r : All2 (Rv B ρ) vs l) : ∀ n : Nat, All2 (Rv B ρ) (List.replicate n vs).flatten (List.replicate n l).flatten
  | 0 => .nil
  | n + 1 => by simp only [List.replicate_succ, List.flatten_cons]; exact r.append (r.flat_rep n)
section
variable {x : Sx} {E : Nat → St → Prop} {σ : St}
theorem Op2.addL {i j : Nat} {vs ws : List V} {Q : V → St → Prop} (hi : σ.H[i]? = some (.list vs)) (hj : σ.H[j]? = some (.list ws)) (hz : vs.length + ws.length ≤ 2 ^ 20) (h : Q (.ref σ.H.length) ⟨σ.loc, σ.H ++ [.list (vs ++ ws)]⟩) : Op2 x E (binaryOp .Add) (.ref i) (.ref j) σ Q :=
  fun f ρ va vb e ra rb hh tk R Qc Ec hq _ => by
  obtain ⟨m, objs, fo, W⟩ := id R
  obtain ⟨a, l, n, rfl, g1, g2, _, hl, rr, z, hg⟩ := W.isList hi ra
  obtain ⟨b, l', n', rfl, k1, k2, _, hl', rr', z', hg'⟩ := W.isList hj rb
  have e1 := rr.length
  have e2 := rr'.length
  refine add_lists (s := f.st hh tk) W.fr W.news hl hl' (fun h' F' N' => ?_) (by rw [sizeLine_eq]; (first | lia | omega))
  exact hq _ _ _ (ρ ++ [hh.objs.size]) h' tk h ⟨[hh.objs.size], rfl⟩ ⟨_, _, _, W.new1 F' N' (fun p hp => Heap.lt_size (W.news p hp).1) (x := .list (vs ++ ws)) ⟨l ++ l', 0, rfl, rr.append rr', by simp; (first | lia | omega)⟩⟩ ⟨_, R.get_new _, rfl⟩
theorem Op2.mulN {i : Nat} {vs : List V} {k : Int} {Q : V → St → Prop} (hi : σ.H[i]? = some (.list vs)) (hne : vs ≠ []) (h0 : 0 ≤ k) (hz : vs.length * k.toNat ≤ 2 ^ 20) (hk : k < 2 ^ 60) (h : Q (.ref σ.H.length) ⟨σ.loc, σ.H ++ [.list (List.replicate k.toNat vs).flatten]⟩) : Op2 x E (binaryOp .Mult) (.ref i) (.int k) σ Q :=
  fun f ρ va vb e ra ⟨t, eb⟩ hh tk R Qc Ec hq _ => by
  subst eb
  obtain ⟨m, objs, fo, W⟩ := id R
  obtain ⟨a, l, n, rfl, g1, g2, _, hl, rr, z, hg⟩ := W.isList hi ra
  have e1 := rr.length
  refine mul_list (s := f.st hh tk) W.fr W.news hg (by (first | lia | omega)) (by (first | lia | omega)) (by rw [List.size_toArray, ← e1]; (first | lia | omega)) (fun h' F' N' => ?_)
  have hne' : l.toArray.isEmpty = false := by
    cases l with
    | nil => simp at e1; exact absurd e1 hne
    | cons y l => rfl
  have e2 : List.foldl (fun x1 x2 => x1 ++ x2) #[] (List.replicate (if l.toArray.isEmpty = true then 0 else k.toNat) l.toArray) = (List.replicate k.toNat l).flatten.toArray := by
    rw [hne']
    simp only [Bool.false_eq_true, if_false]
    have gen : ∀ (c : Nat) (acc : List Value), List.foldl (fun x1 x2 => x1 ++ x2) acc.toArray (List.replicate c l.toArray) = (acc ++ (List.replicate c l).flatten).toArray := by
      intro c
      induction c with
      | zero => intro acc; simp
      | succ c ih =>
        intro acc
        rw [List.replicate_succ, List.foldl_cons, List.replicate_succ, List.flatten_cons, ← List.append_assoc, ← ih]
        simp
    exact gen _ []
  rw [e2] at N'
  have hr := rr.flat_rep k.toNat
  exact hq _ _ _ (ρ ++ [hh.objs.size]) h' tk h ⟨[hh.objs.size], rfl⟩ ⟨_, _, _, W.new1 F' N' (fun p hp => Heap.lt_size (W.news p hp).1) (x := .list (List.replicate k.toNat vs).flatten) ⟨_, 0, rfl, hr, by simp; rw [Nat.mul_comm]; exact hz⟩⟩ ⟨_, R.get_new _, rfl⟩
theorem TE.neg {e : Expr} {p} {Q : V → St → Prop} (h : TE x E σ e fun v σ₁ => ∃ i, v = .int i ∧ Q (.int (-i)) σ₁) : TE x E σ (.UnaryOp .USub e p) Q := fun f ρ ex => by
  rw [arm_eval_UnaryOp]
  refine (h f ρ ex).bind fun a va σ₁ ρ₁ q₁ _ r₁ => Run.standAt (Run.holding ?_)
  obtain ⟨i, rfl, q⟩ := q₁
  obtain ⟨t, rfl⟩ := r₁
  exact Run.ofInt q fun s A Qc Ec q => PyProof.Rows.neg_int q
theorem TS.expr {e : Expr} {p : Pos} {Q : Fl → St → Prop} (h : TE x E σ e fun _ σ₁ => Q .next σ₁) (hs : ∀ env : Env, env.scope = x.sc → swapsWith e Option.none p.line env = pure false) (hi : ∀ env : Env, env.scope = x.sc → env.scope.kind = .function → interactive env = false) : TS x E σ (.Expr e p) Q := fun f ρ ex hh tk R Qc Ec hq hE => by
  have sc : f.ev.scope = x.sc := by rw [R.ok.sc, ex]
  refine wpAny_Expr_any ((h f ρ ex) hh tk R _ Ec ?_ hE) (hi _ sc R.ok.kind) (hs _ sc)
  intro v v' σ₁ ρ₁ h₁ t₁ q₁ k₁ R₁ r₁
  exact hq .next _ σ₁ ρ₁ h₁ t₁ q₁ k₁ R₁ rfl
theorem CallB.intI {i : Int} {Q : V → St → Prop} (h : Q (.int i) σ) : CallB x E (.type "int") [.int i] σ Q := fun f ρ us e r hh tk R Qc Ec hq _ => by
  cases r with
  | cons r1 r => cases r with
  | nil =>
  obtain ⟨t, rfl⟩ := r1
  exact call_int_int (hq _ _ σ ρ hh tk h (List.prefix_refl _) R ⟨_, rfl⟩)
theorem CallB.intB {b : Bool} {Q : V → St → Prop} (h : Q (.int (if b then 1 else 0)) σ) : CallB x E (.type "int") [.bool b] σ Q := fun f ρ us e r hh tk R Qc Ec hq _ => by
  cases r with
  | cons r1 r => cases r with
  | nil =>
  cases r1
  exact call_int_bool (hq (.int (if b then 1 else 0)) _ σ ρ hh (tk + 1) h (List.prefix_refl _) R ⟨_, rfl⟩)
theorem CallB.listL {i : Nat} {vs : List V} {Q : V → St → Prop} (hi : σ.H[i]? = some (.list vs)) (h : Q (.ref σ.H.length) ⟨σ.loc, σ.H ++ [.list vs]⟩) : CallB x E (.type "list") [.ref i] σ Q := fun f ρ us e r hh tk R Qc Ec hq _ => by
  cases r with
  | cons r1 r => cases r with
  | nil =>
  obtain ⟨m, objs, fo, W⟩ := id R
  obtain ⟨a, l, n, rfl, g1, g2, _, hl, rr, z, hg⟩ := W.isList hi r1
  obtain ⟨o, ho, hc, k, hd⟩ := hl
  refine call_list_seq (hsz := by rw [List.size_toArray, sizeLine_eq]; (first | lia | omega)) a (.inl rfl) ho hc hd fun h' c' hk hD => ?_
  exact hq _ _ _ (ρ ++ [hh.objs.size]) h' tk h ⟨[hh.objs.size], rfl⟩ (R.alloc hk (Nat.le_refl _) hD (x := .list vs) ⟨l, c', rfl, rr, by rw [rr.length]; exact z⟩) ⟨_, R.get_new _, rfl⟩
theorem CallB.bytesL {i : Nat} {ns : List Int} {Q : V → St → Prop} (hh0 : x.hx = false) (hi : σ.H[i]? = some (.list (ns.map V.int))) (hr : ∀ n ∈ ns, 0 ≤ n ∧ n < 256) (h : Q (.bytes ns) σ) : CallB x E (.type "bytes") [.ref i] σ Q := fun f ρ us e r hh tk R Qc Ec hq _ => by
  cases r with
  | cons r1 r => cases r with
  | nil =>
  obtain ⟨m, objs, fo, W⟩ := id R
  obtain ⟨a, l, n, rfl, g1, g2, _, hl, rr, z, hg⟩ := W.isList hi r1
  have hI := ints_of rr
  refine call_bytes_ints hl hI hr (by rw [sizeLine_eq]; (first | lia | omega)) (R.ok.hand (by rw [e]; exact hh0)) fun h' t k hk => ?_
  have hb : (byteArr ns).toList.map (fun c => (c.toNat : Int)) = ns := by
    unfold byteArr
    simp only [List.map_map]
    conv => rhs; rw [← List.map_id ns]
    apply List.map_congr_left
    intro n hn
    obtain ⟨h0, h1⟩ := hr n hn
    simp only [Function.comp, id]
    have : (UInt8.ofNat n.toNat).toNat = n.toNat := by rw [UInt8.toNat_ofNat']; (first | lia | omega)
    rw [this]; (first | lia | omega)
  refine hq (.bytes ns) _ σ ρ h' k h (List.prefix_refl _) (R.keeps hk) ⟨_, _, rfl, hb, ?_⟩
  have e1 := rr.length
  have : (byteArr ns).size = ns.length := by
    have := congrArg List.length hb
    simpa using this
  rw [this]
  simp at e1
  (first | lia | omega)
theorem Op2.neS {s t : PySem.Str} {Q : V → St → Prop} (h : Q (.bool (!decide (s = t))) σ) : Op2 x E (compareOp .NotEq) (.str s) (.str t) σ Q := fun f ρ _ _ _ ⟨_, ea⟩ ⟨_, eb⟩ => by
  subst ea eb
  refine Run.ofBool h fun s' A Qc Ec q => PyProof.Rows.ne_str ?_
  have e : (s != t) = !decide (s = t) := by by_cases z : s = t <;> simp [z]
  rw [e]; exact q

/-- self.name = v: the name is new there -/
theorem TAsg.field {n name : PySem.Str} {np p : Pos} {i j C : Nat} {es : List (PySem.Str × V)} {v : V} {Q : St → Prop} (ho : TE x E σ (.Name n np) fun o σ₁ => o = .ref i ∧ σ₁ = σ) (hi : σ.H[i]? = some (.inst C j)) (hj : σ.H[j]? = some (.dict es)) (hv : es.lookup name = Option.none) (hz : es.length < 1000)
    (hs : ∀ P, findIn (hd.heap_39 P) (.ref C) "__setattr__" = some (some (.builtin "object.__setattr__"))) (hp : ∀ P, plainOver (hd.heap_39 P) C = true) (ht : ∀ P, takerIn (hd.heap_39 P) C name = some Option.none) (hh : ∀ P, hasDictIn (hd.heap_39 P) C = true)
    (h : Q ⟨σ.loc, σ.H.set j (.dict (es ++ [(name, v)]))⟩) : TAsg x E (.Attribute (.Name n np) name p) v σ Q := fun f ρ va e r hp₀ tk R Qc Ec hq hE => by
  rw [assign_Attribute]
  refine wpAny_bind (wpAny_holding ((ho f ρ e) hp₀ tk R _ Ec ?_ hE))
  intro o o' σ₁ ρ₁ h₁ t₁ q₁ k₁ R₁ r₁
  obtain ⟨rfl, rfl⟩ := q₁
  obtain ⟨m, objs, fo, W⟩ := id R₁
  obtain ⟨a, d, l, nn, g1, g2, g3, g4, I⟩ := W.instAt hi hj
  obtain ⟨a', ha', rfl⟩ := r₁
  rw [g1] at ha'
  obtain rfl := Option.some.inj ha'
  have hgl := getL_none g4 hv
  have hput : putN name l nn = nn + 1 ∧ putL name (PyData.keyHash f.w.params name) (.str name (t₁ + 1)) va l = l ++ [⟨PyData.keyHash f.w.params name, .str name (t₁ + 1), va⟩] := by
    have hany : ∀ y ∈ l, y.key.isStr name = false := by
      unfold getL at hgl
      intro y hy
      cases hf : l.find? (fun e => e.key.isStr name) with
      | none => exact Bool.eq_false_iff.mpr (fun z => by have := List.find?_eq_none.mp hf y hy; exact this z)
      | some z => rw [hf] at hgl; simp at hgl
    clear hgl
    constructor
    · unfold putN
      rw [if_neg]
      intro z
      obtain ⟨y, hy, q⟩ := List.any_eq_true.mp z
      rw [hany y hy] at q; cases q
    · clear g4 I W g3
      induction l with
      | nil => rfl
      | cons y l ih =>
        unfold putL
        rw [if_neg (by rw [hany y (List.mem_cons_self ..)]; decide)]
        rw [ih fun z hz => hany z (List.mem_cons_of_mem _ hz)]
        rfl
  refine wpAny_bind (wpAny_standAt (wpAny_bind (wpAny_holding ?_)))
  have hzl : (l ++ [(⟨PyData.keyHash f.w.params name, .str name (t₁ + 1), va⟩ : DictEntry)]).length ≤ 1000 := by simp [← g4.length]; (first | lia | omega)
  refine set_dict (K := hd.heap_39 f.w.params) (s := f.st h₁ t₁) W.fr W.ok.ki W.news I rfl (hs _) (hp _) (ht _) (hh _) (by rw [hgl]; rfl) (Prod.ext hput.2 hput.1) (W.upd g2 g3 _) hzl fun h' F' N' => ?_
  have r' := r.mono k₁
  intro Γ pp hΓ
  rw [Sem.wp_release]
  refine hq () () _ ρ₁ h' (t₁ + 2) h k₁ ⟨_, _, _, W.set1 F' N' (x := .dict (es ++ [(name, v)])) ⟨_, nn + 1, rfl, g4.append (.cons ⟨⟨_, rfl⟩, rfl, r'⟩ .nil)⟩⟩ trivial
end
end
section
noncomputable def kasChk {α : Type} (n : Nat) (r : List Nat) : KasT α → Option α
  | .ret a => some a
  | .ask i j k => if i < n ∧ j < n then kasChk n r (k (decide (r.getD i 0 < r.getD j 0))) else none
noncomputable def allNd (n : Nat) (P : List Nat → Bool) : Nat → List Nat → Bool
  | 0, acc => P acc
  | k + 1, acc => (List.range n).all fun x => acc.contains x || allNd n P k (acc ++ [x])
theorem allNd_spec {n : Nat} {P : List Nat → Bool} : ∀ (k : Nat) (acc t : List Nat), allNd n P k acc = true → t.length = k → (acc ++ t).Nodup → (∀ x ∈ t, x < n) → P (acc ++ t) = true
  | 0, acc, t, h, hl, _, _ => by
    cases t with
    | nil => simpa [allNd] using h
    | cons => simp at hl
  | k + 1, acc, t, h, hl, hn, hx => by
    cases t with
    | nil => simp at hl
    | cons y t =>
      unfold allNd at h
      rw [List.all_eq_true] at h
      have h1 := h y (List.mem_range.mpr (hx y (List.mem_cons_self ..)))
      have h2 : acc.contains y = false := by
        rw [List.nodup_append] at hn
        cases q : acc.contains y with
        | false => rfl
        | true =>
          rw [List.contains_iff_mem] at q
          exact absurd rfl (hn.2.2 y q y (List.mem_cons_self ..))
      rw [h2, Bool.false_or] at h1
      have := allNd_spec k (acc ++ [y]) t h1 (by simpa using hl) (by simpa using hn) fun z hz => hx z (List.mem_cons_of_mem _ hz)
      simpa using this
noncomputable def srtOk (n : Nat) (r : List Nat) : Bool := match kasChk n r (kas_sort n) with | some p => p.toList.map (fun i => r.getD i 0) == List.range n && p.toList.all (· < n) | none => false
theorem srt_all : (allNd 2 (srtOk 2) 2 [] && allNd 3 (srtOk 3) 3 [] && allNd 4 (srtOk 4) 4 [] && allNd 5 (srtOk 5) 5 [] && allNd 6 (srtOk 6) 6 []) = true := by decide +kernel

theorem kasChk_wp {α : Type} {n : Nat} {r : List Nat} {cmp : Nat → Nat → (Bool → Shared → Prop) → Shared → Prop} {Q : α → Shared → Prop} {s : Shared} (hc : ∀ i j C, i < n → j < n → C (decide (r.getD i 0 < r.getD j 0)) s → cmp i j C s) :
    ∀ (t : KasT α) (a : α), kasChk n r t = some a → Q a s → t.kasWp cmp Q s
  | .ret b, a, h, q => by
    unfold kasChk at h
    cases h
    exact q
  | .ask i j k, a, h, q => by
    unfold kasChk at h
    by_cases z : i < n ∧ j < n
    · rw [if_pos z] at h
      exact hc i j _ z.1 z.2 (kasChk_wp hc (k _) a h q)
    · rw [if_neg z] at h; cases h

noncomputable abbrev Pr := Int × Int
noncomputable def plt (p q : Pr) : Bool := decide (p.1 < q.1) || (decide (p.1 = q.1) && decide (p.2 < q.2))
theorem plt_irrefl (p : Pr) : plt p p = false := by simp [plt]
theorem plt_trans {p q r : Pr} (h1 : plt p q = true) (h2 : plt q r = true) : plt p r = true := by
  simp only [plt, Bool.or_eq_true, Bool.and_eq_true, decide_eq_true_eq] at *
  (first | lia | omega)
theorem plt_total {p q : Pr} (h : p ≠ q) : plt p q = true ∨ plt q p = true := by
  obtain ⟨a, b⟩ := p
  obtain ⟨c, d⟩ := q
  simp only [plt, Bool.or_eq_true, Bool.and_eq_true, decide_eq_true_eq] at *
  by_cases z : a = c
  · by_cases y : b = d
    · exact absurd (by rw [z, y]) h
    · (first | lia | omega)
  · (first | lia | omega)
theorem plt_asymm {p q : Pr} (h1 : plt p q = true) : plt q p = false := by
  cases h : plt q p with
  | false => rfl
  | true => have := plt_trans h1 h; rw [plt_irrefl] at this; cases this
noncomputable def rk (ps : List Pr) (p : Pr) : Nat := ps.countP (plt · p)
theorem countP_or {α : Type} (f g : α → Bool) (hd : ∀ x, f x = true → g x = false) : ∀ l : List α, l.countP (fun x => f x || g x) = l.countP f + l.countP g
  | [] => rfl
  | x :: l => by
    simp only [List.countP_cons]
    rw [countP_or f g hd l]
    have := hd x
    cases h1 : f x <;> cases h2 : g x <;> simp_all <;> (first | lia | omega)
theorem rk_lt {ps : List Pr} {p q : Pr} (hp : p ∈ ps) (h : plt p q = true) : rk ps p < rk ps q := by
  have e := countP_or (plt · p) (fun x => decide (x = p)) (fun x hx => by
    simp only [decide_eq_false_iff_not]; rintro rfl; rw [plt_irrefl] at hx; cases hx) ps
  have h1 : 0 < ps.countP (fun x => decide (x = p)) := List.countP_pos_iff.mpr ⟨p, hp, by simp⟩
  have h2 : ps.countP (fun x => plt x p || decide (x = p)) ≤ ps.countP (plt · q) := List.countP_mono_left fun x _ hx => by
    simp only [Bool.or_eq_true, decide_eq_true_eq] at hx
    rcases hx with hx | rfl
    · exact plt_trans hx h
    · exact h
  unfold rk
  (first | lia | omega)
theorem rk_iff {ps : List Pr} {p q : Pr} (hp : p ∈ ps) (hq : q ∈ ps) : decide (rk ps p < rk ps q) = plt p q := by
  cases h : plt p q with
  | true => exact decide_eq_true (rk_lt hp h)
  | false =>
    refine decide_eq_false fun z => ?_
    by_cases e : p = q
    · subst e; exact Nat.lt_irrefl _ z
    · rcases plt_total e with y | y
      · rw [h] at y; cases y
      · exact absurd (rk_lt hq y) (by (first | lia | omega))
theorem rk_bound {ps : List Pr} {p : Pr} (hp : p ∈ ps) : rk ps p < ps.length := by
  have := List.countP_le_length (p := fun x => plt x p || decide (x = p)) (l := ps)
  have e := countP_or (plt · p) (fun x => decide (x = p)) (fun x hx => by
    simp only [decide_eq_false_iff_not]; rintro rfl; rw [plt_irrefl] at hx; cases hx) ps
  have h1 : 0 < ps.countP (fun x => decide (x = p)) := List.countP_pos_iff.mpr ⟨p, hp, by simp⟩
  unfold rk
  (first | lia | omega)
theorem rk_inj {ps : List Pr} {p q : Pr} (hp : p ∈ ps) (hq : q ∈ ps) (h : rk ps p = rk ps q) : p = q := by
  refine Classical.byContradiction fun e => ?_
  rcases plt_total e with y | y
  · have := rk_lt hp y; (first | lia | omega)
  · have := rk_lt hq y; (first | lia | omega)
theorem srt_at {n : Nat} (h2 : 2 ≤ n) (h6 : n ≤ 6) : allNd n (srtOk n) n [] = true := by
  have h := srt_all
  simp only [Bool.and_eq_true] at h
  rcases (by (first | lia | omega) : n = 2 ∨ n = 3 ∨ n = 4 ∨ n = 5 ∨ n = 6) with rfl | rfl | rfl | rfl | rfl
  · exact h.1.1.1.1
  · exact h.1.1.1.2
  · exact h.1.1.2
  · exact h.1.2
  · exact h.2
theorem nodup_map_of {α β : Type} {f : α → β} : ∀ {l : List α}, l.Nodup → (∀ x ∈ l, ∀ y ∈ l, f x = f y → x = y) → (l.map f).Nodup
  | [], _, _ => by simp
  | x :: l, h, k => by
    rw [List.nodup_cons] at h
    rw [List.map_cons, List.nodup_cons]
    refine ⟨fun z => ?_, nodup_map_of h.2 fun a ha b hb => k a (List.mem_cons_of_mem _ ha) b (List.mem_cons_of_mem _ hb)⟩
    obtain ⟨y, hy, e⟩ := List.mem_map.mp z
    have := k x (List.mem_cons_self ..) y (List.mem_cons_of_mem _ hy) e.symm
    exact h.1 (this ▸ hy)
/-- the order in which sorted() puts distinct pairs -/
theorem sort_pairs {ps : List Pr} (hn : ps.Nodup) (h2 : 2 ≤ ps.length) (h6 : ps.length ≤ 6) :
    ∃ p : Array Nat, kasChk ps.length (ps.map (rk ps)) (kas_sort ps.length) = some p ∧ (∀ i ∈ p.toList, i < ps.length) ∧ p.toList.length = ps.length ∧ ∃ qs, p.toList.map (fun i => ps.getD i (0, 0)) = qs ∧ qs.Pairwise (fun a b => plt a b = true) ∧ ∀ q, q ∈ qs ↔ q ∈ ps := by
  have h := allNd_spec (n := ps.length) (P := srtOk ps.length) ps.length [] (ps.map (rk ps)) (srt_at h2 h6) (by simp) (by
    simpa using nodup_map_of hn fun x hx y hy e => rk_inj hx hy e) (fun x hx => by
    obtain ⟨p, hp, rfl⟩ := List.mem_map.mp hx
    exact rk_bound hp)
  simp only [List.nil_append] at h
  unfold srtOk at h
  cases hc : kasChk ps.length (ps.map (rk ps)) (kas_sort ps.length) with
  | none => rw [hc] at h; cases h
  | some p =>
    rw [hc] at h
    simp only [Bool.and_eq_true, beq_iff_eq, List.all_eq_true, decide_eq_true_eq] at h
    obtain ⟨e, hlt⟩ := h
    have hget : ∀ i, i < ps.length → ps.getD i (0, 0) ∈ ps ∧ (ps.map (rk ps)).getD i 0 = rk ps (ps.getD i (0, 0)) := fun i hi => by
      have e1 : ps.getD i (0, 0) = ps[i] := by simp [hi]
      rw [e1]
      exact ⟨List.getElem_mem hi, by simp [hi]⟩
    refine ⟨p, rfl, hlt, by have := congrArg List.length e; simpa using this, _, rfl, ?_, fun q => ⟨fun hq => ?_, fun hq => ?_⟩⟩
    · rw [List.pairwise_map]
      have hp : (p.toList.map fun i => (ps.map (rk ps)).getD i 0).Pairwise (· < ·) := by rw [e]; exact List.pairwise_lt_range
      rw [List.pairwise_map] at hp
      refine List.Pairwise.imp_of_mem ?_ hp
      intro a b ha hb hab
      obtain ⟨m1, r1⟩ := hget a (hlt a ha)
      obtain ⟨m2, r2⟩ := hget b (hlt b hb)
      rw [r1, r2] at hab
      rw [← rk_iff m1 m2]
      exact decide_eq_true hab
    · obtain ⟨i, hi, rfl⟩ := List.mem_map.mp hq
      exact (hget i (hlt i hi)).1
    · have hr : rk ps q ∈ List.range ps.length := List.mem_range.mpr (rk_bound hq)
      rw [← e] at hr
      obtain ⟨i, hi, ei⟩ := List.mem_map.mp hr
      obtain ⟨m1, r1⟩ := hget i (hlt i hi)
      rw [r1] at ei
      have := rk_inj m1 hq ei
      rw [← this]
      exact List.mem_map.mpr ⟨i, hi, rfl⟩
end
section
section
variable {prog : Program} {w : World} {A : Around} {E : Value → Shared → Prop} {s : Shared}
/-- < of two tuples of two ints -/
theorem tup_lt {a b : Addr} {oa ob : Obj} {x1 x2 y1 y2 : Int} {t1 t2 u1 u2 : Tok} {n k : Nat} {Q : Value → Shared → Prop} (ha : s.heap.get? a = some oa) (ca : oa.cls = .type "tuple") (da : oa.data = .seq #[.int x1 t1, .int x2 t2] n)
    (hb : s.heap.get? b = some ob) (cb : ob.cls = .type "tuple") (db : ob.data = .seq #[.int y1 u1, .int y2 u2] k) (hu : A.units < cLine) (h : Q (.bool (plt (x1, x2) (y1, y2))) s) : wpAny (model prog w) A (compareOp .Lt (.ref a) (.ref b)) Q E s := by
  have Ta : s.TypeIs (.ref a) "tuple" := ⟨oa, ha, ca⟩
  have Tb : s.TypeIs (.ref b) "tuple" := ⟨ob, hb, cb⟩
  show wpAny _ _ (richCompare .Lt (.ref a) (.ref b)) _ _ _
  refine wpAny_richCompare_same_room (op := .Lt) Ta Tb PySem.F.slot_tuple_lt (wpAny_call_entry PySem.F.slot_tuple_lt Ta PySem.F.entry_tuple_lt ?_ (PySem.F.args_tuple_lt_2 _ _)) hu
  show wpAny _ _ (isInstance (.ref b) (.type "tuple") >>= _) _ _ s
  refine wpAny_bind (wpAny_isInstance Tb isSubtype_tuple_tuple ?_)
  simp only [Bool.not_true, Bool.false_eq_true, if_false]
  refine wpAny_bind (wpAny_tupleItemsOf ha da ?_)
  refine wpAny_bind (wpAny_tupleItemsOf hb db ?_)
  refine wpAny_bind ?_
  show wpAny _ _ (forIn [((Value.int x1 t1), (Value.int y1 u1)), ((Value.int x2 t2), (Value.int y2 u2))] _ _) _ _ s
  rw [List.forIn_cons]
  refine wpAny_bind (wpAny_bind (wpAny_eqBool_int ?_))
  by_cases z : x1 = y1
  · subst z
    simp only [beq_self_eq_true, Bool.not_true, Bool.false_eq_true, if_false]
    refine wpAny_pure ?_
    dsimp only
    rw [List.forIn_cons]
    refine wpAny_bind (wpAny_bind (wpAny_eqBool_int ?_))
    by_cases y : x2 = y2
    · subst y
      simp only [beq_self_eq_true, Bool.not_true, Bool.false_eq_true, if_false]
      refine wpAny_pure ?_
      dsimp only
      rw [List.forIn_nil]
      refine wpAny_pure (wpAny_pure ⟨_, rfl, (fun e => nomatch e), ?_⟩)
      rw [plt_irrefl] at h
      exact h
    · have e : (x2 == y2) = false := by simpa using y
      simp only [e, Bool.not_false, if_true]
      refine wpAny_bind (wpAny_rule (wpAny_bind (show wpAny _ _ (compareOp .Lt (.int x2 t2) (.int y2 u2)) _ _ _ from PyProof.Rows.lt_int ?_)))
      refine wpAny_pure (wpAny_pure (wpAny_pure ⟨_, rfl, by simp, ?_⟩))
      have : plt (x1, x2) (x1, y2) = decide (x2 < y2) := by simp [plt]
      rw [this] at h
      exact h
  · have e : (x1 == y1) = false := by simpa using z
    simp only [e, Bool.not_false, if_true]
    refine wpAny_bind (wpAny_rule (wpAny_bind (show wpAny _ _ (compareOp .Lt (.int x1 t1) (.int y1 u1)) _ _ _ from PyProof.Rows.lt_int ?_)))
    refine wpAny_pure (wpAny_pure (wpAny_pure ⟨_, rfl, by simp, ?_⟩))
    have : plt (x1, x2) (y1, y2) = decide (x1 < y1) := by simp [plt, z]
    rw [this] at h
    exact h
end

section
variable {x : Sx} {E : Nat → St → Prop} {σ : St}
noncomputable def Pairs2 (H : List O) (rs : List Nat) (ps : List Pr) : Prop := All2 (fun r (p : Pr) => H[r]? = some (.tuple [.int p.1, .int p.2])) rs ps
theorem RelW.isPair {f : Fx} {ρ : List Addr} {σ : St} {h : Heap} {m : PySem.Str → Option Value} {objs fo : List Obj} (W : RelW f ρ σ h m objs fo) {i : Nat} {p : Pr} {va : Value} (hi : σ.H[i]? = some (.tuple [.int p.1, .int p.2])) (r : Rv f.base ρ (.ref i) va) :
    ∃ (a : Addr) (o : Obj) (t u : Tok) (n : Nat), va = .ref a ∧ (a, o) ∈ allNews f ρ objs fo ∧ h.get? a = some o ∧ o.cls = .type "tuple" ∧ o.data = .seq #[.int p.1 t, .int p.2 u] n := by
  obtain ⟨a, o, h1, h2, h3, _, _, ⟨l, n, e, r'⟩⟩ := W.atObj hi
  obtain ⟨a', ha', rfl⟩ := r
  rw [h1] at ha'
  obtain rfl := Option.some.inj ha'
  subst e
  cases r' with
  | cons r1 r' => cases r' with
  | cons r2 r' => cases r'
                  obtain ⟨t, rfl⟩ := r1
                  obtain ⟨u, rfl⟩ := r2
                  exact ⟨a, _, t, u, n, rfl, List.mem_append_right _ (List.mem_append_right _ (zip_mem h1 h2)), h3, rfl, rfl⟩
theorem Op2.ltP {i j : Nat} {p q : Pr} {Q : V → St → Prop} (hi : σ.H[i]? = some (.tuple [.int p.1, .int p.2])) (hj : σ.H[j]? = some (.tuple [.int q.1, .int q.2])) (h : Q (.bool (plt p q)) σ) : Op2 x E (compareOp .Lt) (.ref i) (.ref j) σ Q := fun f ρ va vb e ra rb hh tk R Qc Ec hq _ => by
  obtain ⟨m, objs, fo, W⟩ := id R
  obtain ⟨a, o, t, u, n, rfl, _, h1, h2, h3⟩ := W.isPair hi ra
  obtain ⟨b, o', t', u', n', rfl, _, k1, k2, k3⟩ := W.isPair hj rb
  exact tup_lt h1 h2 h3 k1 k2 k3 (by have := R.ok.units; (first | lia | omega)) (hq (.bool _) _ σ ρ hh tk h (List.prefix_refl _) R rfl)

theorem sort_short {prog : Program} {w : World} {A : Around} {E : Value → Shared → Prop} {s : Shared} {a : Addr} {vs : List Value} {n : Nat} {P : PySem.Fin → Shared → Prop} (ho : s.heap.get? a = some (seqObj "list" vs.toArray n)) (h2 : vs.length < 2)
    (h : ∀ h' c, h'.get? a = some (seqObj "list" vs.toArray c) → (∀ b o, b ≠ a → s.heap.get? b = some o → h'.get? b = some o) → P (.done (.ret .none)) { s with heap := h' }) :
    wpAny (model prog w) A (Builtin.«list.sort» ⟨[.ref a], []⟩) P E s := by
  have ha : a < s.heap.objs.size := Heap.lt_size ho
  have s1 := Heap.SameBut.update s.heap a (Obj.mapSeq fun _ => (#[] : Array Value))
  obtain ⟨e1, ho1⟩ : ∃ e1, (s.heap.update a (Obj.mapSeq fun _ => (#[] : Array Value))).get? a = some (seqObj "list" #[] e1) := ⟨_, get?_update_seq ho fun _ => #[]⟩
  rw [list_sort_plain]
  refine wpAny_bind (listItems_at ho rfl ?_)
  refine wpAny_bind (listUpdate_at ho rfl ?_ (by rw [List.size_toArray, sizeLine_eq]; (first | lia | omega)) (Nat.zero_le _))
  refine wpAny_bind (seqEpoch_at ho1 rfl ?_)
  refine wpAny_bind (wpAny_newTuple ?_ (by show vs.length ≤ _; rw [sizeLine_eq]; (first | lia | omega)))
  refine wpAny_bind (wpAny_newList ?_ (Nat.zero_le _))
  refine wpAny_holding ?_
  show wpAny (model prog w) A _ P E { s with heap := ((s.heap.update a (Obj.mapSeq fun _ => (#[] : Array Value))).push (seqObj "tuple" vs.toArray 0)).push (seqObj "list" #[] 0) }
  dsimp only
  have hn2 : vs.toArray.size < 2 := by rw [List.size_toArray]; (first | lia | omega)
  rw [if_pos hn2, if_pos hn2]
  refine wpAny_bind (wpAny_pure ?_)
  refine wpAny_bind (wpAny_of_eq (a := ((), SortSt.mk' general' (vs.toArray.zip vs.toArray) #[] 7 none)) rfl ?_)
  dsimp only
  have ho3 : (((s.heap.update a (Obj.mapSeq fun _ => (#[] : Array Value))).push (seqObj "tuple" vs.toArray 0)).push (seqObj "list" #[] 0)).get? a = some (seqObj "list" #[] e1) := Heap.get?_push_of_some _ (Heap.get?_push_of_some _ ho1)
  have hout : (arrOf (SortSt.mk' general' (vs.toArray.zip vs.toArray) #[] 7 none)).map (·.2) = vs.toArray := by
    show (vs.toArray.zip vs.toArray).map (·.2) = vs.toArray
    apply Array.toList_inj.mp
    simp
    rw [List.map_snd_zip (Nat.le_refl _)]
  rw [hout]
  generalize hH : ((s.heap.update a (Obj.mapSeq fun _ => (#[] : Array Value))).push (seqObj "tuple" vs.toArray 0)).push (seqObj "list" #[] 0) = H at ho3 ⊢
  obtain ⟨c2, hc2⟩ : ∃ c2, (H.update a (Obj.mapSeq fun _ => vs.toArray)).get? a = some (seqObj "list" vs.toArray c2) := ⟨_, get?_update_seq ho3 fun _ => vs.toArray⟩
  refine wpAny_bind (seqEpoch_at ho3 rfl ?_)
  refine wpAny_bind (listUpdate_at ho3 rfl ?_ (Nat.zero_le _) (by rw [List.size_toArray, sizeLine_eq]; (first | lia | omega)))
  simp only [bne_self_eq_false, Bool.false_eq_true, if_false]
  refine wpAny_pure (h _ c2 hc2 fun b o hb e => ?_)
  have s2 := Heap.SameBut.update H a (Obj.mapSeq fun _ => vs.toArray)
  refine (s2.2 b hb).trans ?_
  rw [← hH]
  exact Heap.get?_push_of_some _ (Heap.get?_push_of_some _ ((s1.2 b hb).trans e))
theorem sorted_short {prog : Program} {w : World} {A : Around} {E : Value → Shared → Prop} {s : Shared} {l : Addr} {vs : List Value} {Q : Value → Shared → Prop} (hl : s.heap.IsList l vs.toArray) (h2 : vs.length < 2)
    (h : ∀ h' c, h'.get? (s.heap.objs.size + 1) = some (seqObj "list" vs.toArray c) → (∀ b o, s.heap.get? b = some o → h'.get? b = some o) → Q (.ref (s.heap.objs.size + 1)) { s with heap := h' }) :
    wpAny (model prog w) A (call (.builtin "sorted") [.ref l]) Q E s := by
  refine Calls.call_function_entry kind_sorted plain_sorted entry_sorted (args_sorted1 _) ?_
  unfold Builtin.«sorted»
  refine wpAny_bind (m := checkCount "sorted" 1 1 _) (wpAny_pure ?_)
  refine wpAny_bind (PyProof.Rows.collect_list hl ?_ (by rw [sizeLine_eq]; (first | lia | omega)))
  refine wpAny_bind (wpAny_newList ?_ (by rw [sizeLine_eq]; (first | lia | omega)))
  have hsz : ((s.heap.push (seqObj "list" #[] 0)).update s.heap.objs.size (Obj.mapSeq (· ++ vs.toArray))).objs.size = s.heap.objs.size + 1 := by
    rw [Heap.size_update, Heap.size_push]
  have hoL : (((s.heap.push (seqObj "list" #[] 0)).update s.heap.objs.size (Obj.mapSeq (· ++ vs.toArray))).push (seqObj "list" vs.toArray 0)).get? (s.heap.objs.size + 1) = some (seqObj "list" vs.toArray 0) := by
    rw [← hsz]; exact Heap.get?_push_size _ rfl
  have keep : ∀ b o, s.heap.get? b = some o → (((s.heap.push (seqObj "list" #[] 0)).update s.heap.objs.size (Obj.mapSeq (· ++ vs.toArray))).push (seqObj "list" vs.toArray 0)).get? b = some o := fun b o q => by
    have hlt : b < s.heap.objs.size := Heap.lt_size q
    rw [Heap.get?_push_ne _ _ _ (by rw [hsz]; exact Nat.ne_of_lt (Nat.lt_succ_of_lt hlt)), Heap.get?_update_ne _ _ _ _ (Nat.ne_of_lt hlt), Heap.get?_push_ne _ _ _ (Nat.ne_of_lt hlt)]
    exact q
  show wpAny _ _ _ _ _ { s with heap := ((s.heap.push (seqObj "list" #[] 0)).update s.heap.objs.size (Obj.mapSeq (· ++ vs.toArray))).push (seqObj "list" vs.toArray 0) }
  rw [hsz]
  refine wpAny_bind (wpAny_holding (wpAny_call_entry slot_list_sort ⟨_, hoL, rfl⟩ entry_list_sort (sort_short hoL h2 fun h' c hc hk => ⟨_, rfl, ?_⟩) (args_list_sort _)))
  exact wpAny_pure ⟨_, rfl, h h' c hc fun b o e => hk b o (Nat.ne_of_lt (Nat.lt_succ_of_lt (Heap.lt_size e))) (keep b o e)⟩

theorem katTups_of {f : Fx} {ρ : List Addr} {σ : St} {h h' : Heap} {m : PySem.Str → Option Value} {objs fo : List Obj} (W : RelW f ρ σ h m objs fo) (hk : ∀ b o, (b, o) ∈ allNews f ρ objs fo → h'.get? b = some o) : ∀ {rs : List Nat} {ps : List Pr} {l : List Value}, Pairs2 σ.H rs ps → All2 (Rv f.base ρ) (rs.map V.ref) l →
    ∃ fs, KatTups h' l fs ∧ fs.length = ps.length ∧ ∀ v ∈ fs, ∃ i t, v = .int i t
  | _, _, _, .nil, .nil => ⟨[], trivial, rfl, fun _ hv => by cases hv⟩
  | _, _, _, .cons (b := p) hp P, .cons r R => by
    obtain ⟨fs, h1, h2, h3⟩ := katTups_of W hk P R
    obtain ⟨a, o, t, u, n, rfl, g1, g2, g3, g4⟩ := W.isPair hp r
    refine ⟨.int p.1 t :: fs, .cons (hk a o g1) g3 g4 rfl h1, by simp [h2], fun v hv => ?_⟩
    rcases List.mem_cons.mp hv with rfl | hv
    · exact ⟨_, _, rfl⟩
    · exact h3 v hv
theorem all2_getD {B : Heap} {ρ : List Addr} {rs : List Nat} {l : List Value} (R : All2 (Rv B ρ) (rs.map V.ref) l) {i : Nat} (hi : i < rs.length) : Rv B ρ (.ref (rs.getD i 0)) (l.getD i .none) := by
  obtain ⟨v, hv, r⟩ := R.get (i := i) (a := .ref rs[i]) (by simp [hi])
  have e1 : rs.getD i 0 = rs[i] := by simp [hi]
  have e2 : l.getD i .none = v := by simp [hv]
  rw [e1, e2]; exact r
theorem pairs2_getD {H : List O} {rs : List Nat} {ps : List Pr} (P : Pairs2 H rs ps) {i : Nat} (hi : i < ps.length) : H[rs.getD i 0]? = some (.tuple [.int (ps.getD i (0, 0)).1, .int (ps.getD i (0, 0)).2]) := by
  have hl := P.length
  obtain ⟨p, hp, r⟩ := P.get (i := i) (a := rs[i]'(by (first | lia | omega))) (by simp)
  have e1 : rs.getD i 0 = rs[i]'(by (first | lia | omega)) := by simp [show i < rs.length by (first | lia | omega)]
  have e2 : ps.getD i (0, 0) = p := by simp [hp]
  rw [e1, e2]; exact r
theorem all2_map_getD {α β γ : Type} {R : β → γ → Prop} {f : α → β} {g : α → γ} : ∀ {l : List α}, (∀ a ∈ l, R (f a) (g a)) → All2 R (l.map f) (l.map g)
  | [], _ => .nil
  | a :: l, h => .cons (h a (List.mem_cons_self ..)) (all2_map_getD fun b hb => h b (List.mem_cons_of_mem _ hb))
/-- sorted(), of distinct pairs of ints -/
theorem CallB.sorted {i : Nat} {rs : List Nat} {ps : List Pr} {Q : V → St → Prop} (hi : σ.H[i]? = some (.list (rs.map V.ref))) (hP : Pairs2 σ.H rs ps) (hn : ps.Nodup) (h6 : ps.length ≤ 6)
    (h : ∀ rs' qs, Pairs2 σ.H rs' qs → qs.Pairwise (fun a b => plt a b = true) → (∀ q, q ∈ qs ↔ q ∈ ps) → Q (.ref σ.H.length) ⟨σ.loc, σ.H ++ [.list (rs'.map V.ref)]⟩) : CallB x E (.builtin "sorted") [.ref i] σ Q := fun f ρ us e r hh tk R Qc Ec hq _ => by
  cases r with
  | cons r1 r => cases r with
  | nil =>
  obtain ⟨m, objs, fo, W⟩ := id R
  obtain ⟨a, l, n, rfl, g1, g2, _, hl, rr, z, hg⟩ := W.isList hi r1
  have hlen : l.length = ps.length := by rw [← rr.length]; simp [hP.length]
  by_cases h2 : l.length < 2
  · refine sorted_short hl h2 fun h' c hc hk => ?_
    refine hq _ _ _ (ρ ++ [hh.objs.size + 1]) h' tk (h rs ps hP ?_ fun _ => Iff.rfl) ⟨_, rfl⟩ (R.alloc hk (Nat.le_succ _) hc (x := .list (rs.map V.ref)) ⟨l, c, rfl, rr, by rw [rr.length]; exact z⟩) ⟨_, R.get_new _, rfl⟩
    match ps, hlen with
    | [], _ => exact .nil
    | [_], _ => exact List.pairwise_singleton ..
    | _ :: _ :: _, hl => simp at hl; (first | lia | omega)
  · refine kat_sorted (s := f.st hh tk) W.fr W.news hl (by (first | lia | omega)) (by (first | lia | omega)) fun D e1 h' F' N' hD => ?_
    have hk : ∀ b o, (b, o) ∈ allNews f ρ objs fo → h'.get? b = some o := fun b o q => (N' (b, o) (List.mem_cons_of_mem _ q)).1
    obtain ⟨fs, t1, t2, t3⟩ := katTups_of W hk hP rr
    refine kat_kind (T := .type "int") t1 (by (first | lia | omega)) (fun v hv => by obtain ⟨i, t, rfl⟩ := t3 v hv; exact Looks.of_pure rfl) rfl ?_
    obtain ⟨p, hp1, hp2, hpl, qs, hqs, hp3, hp4⟩ := sort_pairs hn (by (first | lia | omega)) h6
    rw [← hlen] at hp1
    refine kasChk_wp (n := l.length) (r := ps.map (rk ps)) (fun i j C hi' hj' hC => ?_) _ p hp1 ?_
    · have m1 : ps.getD i (0, 0) ∈ ps := by have : i < ps.length := by (first | lia | omega)
                                            simp [this]
      have m2 : ps.getD j (0, 0) ∈ ps := by have : j < ps.length := by (first | lia | omega)
                                            simp [this]
      have c1 : (ps.map (rk ps)).getD i 0 = rk ps (ps.getD i (0, 0)) := by have : i < ps.length := by (first | lia | omega)
                                                                           simp [this]
      have c2 : (ps.map (rk ps)).getD j 0 = rk ps (ps.getD j (0, 0)) := by have : j < ps.length := by (first | lia | omega)
                                                                           simp [this]
      rw [c1, c2, rk_iff m1 m2] at hC
      have hrs : rs.length = l.length := by rw [← rr.length]; simp
      obtain ⟨b1, o1, u1, v1, n1, x1, x2, x3, x4, x5⟩ := W.isPair (pairs2_getD hP (by (first | lia | omega) : i < ps.length)) (all2_getD rr (by (first | lia | omega) : i < rs.length))
      obtain ⟨b2, o2, u2, v2, n2, y1, y2, y3, y4, y5⟩ := W.isPair (pairs2_getD hP (by (first | lia | omega) : j < ps.length)) (all2_getD rr (by (first | lia | omega) : j < rs.length))
      show wpAny _ _ (keyLt' _ (l.getD i Value.none) (l.getD j Value.none)) _ _ _
      rw [x1, y1]
      refine kat_lt (hk _ _ x2) x5 (hk _ _ y2) y5 ?_
      generalize ps.getD i (0, 0) = pi at *
      generalize ps.getD j (0, 0) = pj at *
      refine kat_cons (wpAny_eqBool_int ?_)
      by_cases z1 : pi.1 = pj.1
      · rw [show (pi.1 == pj.1) = true by simpa using z1]
        refine kat_yes (kat_cons (wpAny_eqBool_int ?_))
        by_cases z2 : pi.2 = pj.2
        · rw [show (pi.2 == pj.2) = true by simpa using z2]
          refine kat_yes (kat_nil ?_)
          have : plt pi pj = false := by simp [plt, z1, z2]
          rw [this] at hC
          exact hC
        · rw [show (pi.2 == pj.2) = false by simpa using z2]
          refine kat_no ?_
          have : plt pi pj = decide (pi.2 < pj.2) := by simp [plt, z1]
          rw [this] at hC
          refine kat_one _ _ (PyProof.Rows.lt_int ?_)
          exact hC
      · rw [show (pi.1 == pj.1) = false by simpa using z1]
        refine kat_no ?_
        have : plt pi pj = decide (pi.1 < pj.1) := by simp [plt, z1]
        rw [this] at hC
        exact oneLt_int hC
    · refine KasFin.intro F' N' (.head fun p hp => fun e => absurd (hD p hp) (by rw [e]; exact Nat.lt_irrefl _)) fun h₂ c F₂ N₂ => ?_
      have hlst : (p.toList.map fun i => l.getD i Value.none) = (p.toList.map fun i => l.getD i Value.none) := rfl
      have hrs : rs.length = ps.length := hP.length
      have A1 : All2 (Rv f.base ρ) ((p.toList.map fun i => rs.getD i 0).map V.ref) (p.toList.map fun i => l.getD i Value.none) := by
        rw [List.map_map]
        exact all2_map_getD fun i hi' => all2_getD rr (by have := hp2 i hi'; (first | lia | omega))
      have A2 : Pairs2 σ.H (p.toList.map fun i => rs.getD i 0) qs := by
        rw [← hqs]
        exact all2_map_getD fun i hi' => pairs2_getD hP (hp2 i hi')
      refine hq _ _ _ (ρ ++ [D]) h₂ tk (h _ qs A2 hp3 hp4) ⟨[D], rfl⟩ ⟨_, _, _, W.new1 F₂ N₂ hD (x := .list ((p.toList.map fun i => rs.getD i 0).map V.ref)) ⟨_, c, rfl, A1, ?_⟩⟩ ⟨D, R.get_new _, rfl⟩
      simp only [List.length_map]
      (first | lia | omega)
end
end
section
open PySem.SeqAt PyProof.V

noncomputable def Rps (B : Heap) (ρ : List Addr) (xs : List (PySem.Str × V)) (vs : List (Value × Value)) : Prop := All2 (fun x v => (∃ t, v.1 = .str x.1 t) ∧ Rv B ρ x.2 v.2) xs vs
noncomputable def TPairs (x : Sx) (E : Nat → St → Prop) (ks : List (Option Expr)) (vs : List Expr) (σ : St) (Q : List (PySem.Str × V) → St → Prop) : Prop := ∀ f ρ pos, f.x = x → Run f Rps E ρ σ (evalPairs (pairTrees ks vs f.ev pos)) Q
theorem strPairs_of {B : Heap} {ρ : List Addr} {xs : List (PySem.Str × V)} {vs : List (Value × Value)} (h : Rps B ρ xs vs) : allStrKeys vs = true ∧ All2 (Rk B ρ) xs (strPairs vs) ∧ (strPairs vs).map (·.1) = xs.map (·.1) := by
  induction h with
  | nil => exact ⟨rfl, .nil, rfl⟩
  | @cons x v _ _ h r ih =>
    obtain ⟨⟨t, h1⟩, h2⟩ := h
    obtain ⟨a, b, c⟩ := ih
    obtain ⟨k, u⟩ := v
    simp only at h1 h2
    subst h1
    exact ⟨a, .cons ⟨rfl, h2⟩ b, by simp [strPairs, c]⟩
section
variable {x : Sx} {E : Nat → St → Prop} {σ : St}
theorem TPairs.nil {Q : List (PySem.Str × V) → St → Prop} (h : Q [] σ) : TPairs x E [] [] σ Q := fun f ρ pos e hh tk R Qc Ec hq _ => pairTrees_nil_walk (hq [] [] σ ρ hh tk h (List.prefix_refl _) R .nil)
theorem TPairs.cons {n : PySem.Str} {k p} {v : Expr} {ks : List (Option Expr)} {vs : List Expr} {Q : List (PySem.Str × V) → St → Prop} (h : TE x E σ v fun u σ₁ => TPairs x E ks vs σ₁ fun r σ₂ => Q ((n, u) :: r) σ₂) : TPairs x E (some (.Constant (.str n) k p) :: ks) (v :: vs) σ Q :=
  fun f ρ pos e hh tk R Qc Ec hq hE => by
  refine pairTrees_cons_walk (Calls.Constant_str ?_)
  refine (h f ρ e) hh (tk + 1) R _ Ec ?_ hE
  intro u u' σ₁ ρ₁ h₁ t₁ q₁ k₁ R₁ r₁
  refine (q₁ f ρ₁ pos e) h₁ t₁ R₁ _ Ec ?_ (hE.mono k₁)
  intro r r' σ₂ ρ₂ h₂ t₂ q₂ k₂ R₂ r₂
  exact hq _ _ σ₂ ρ₂ h₂ t₂ q₂ (k₁.trans k₂) R₂ (.cons ⟨⟨_, rfl⟩, r₁.mono k₂⟩ r₂)
theorem TE.dict {keys : List (Option Expr)} {values : List Expr} {pos : Pos} {Q : V → St → Prop} (h : TPairs x E keys values ⟨σ.loc, σ.H ++ [.map []]⟩ fun xs σ₁ => (xs.map (·.1)).Nodup ∧ xs.length ≤ 15 ∧ σ₁.H[σ.H.length]? = some (.map []) ∧ Q (.ref σ.H.length) ⟨σ₁.loc, σ₁.H.set σ.H.length (.map xs)⟩)
    (hall : keys.all (·.isSome) = true) (hl : keys.length = values.length) (h0 : keys ≠ []) (hlen : keys.length ≤ 15) : TE x E σ (.Dict keys values pos) Q := fun f ρ e hh tk R Qc Ec hq hE => by
  refine wpAny_Dict_walk (knd := strKind PG f.w) hall hl h0 hlen ?_
  obtain ⟨o, ho, hob⟩ := dictOf_obj (w := f.w) (Heap.DictOf.new (knd := strKind PG f.w) hh)
  have R₁ : Rel f (ρ ++ [hh.objs.size]) ⟨σ.loc, σ.H ++ [.map []]⟩ (hh.push { cls := .type "dict", data := .dict #[] }) :=
    R.alloc (fun _ _ e => Heap.get?_push_of_some _ e) (Nat.le_refl _) ho (x := .map []) ⟨[], hob, .nil, by simp⟩
  refine (h f _ pos e) _ tk R₁ _ Ec ?_ (hE.mono ⟨[hh.objs.size], rfl⟩)
  intro xs vs σ₁ ρ₁ h₁ t₁ ⟨hnd, hz, hm, q⟩ k₁ R' r
  obtain ⟨a, b, c⟩ := strPairs_of r
  have gD := pre_get k₁ (R.get_new hh.objs.size)
  have W' := R'
  obtain ⟨m, objs, fo, W⟩ := W'
  obtain ⟨d, kvs, ed, g1, g2, g3, g4⟩ := W.isMap hm (va := .ref hh.objs.size) ⟨_, gD, rfl⟩
  cases ed
  cases g3
  refine display_done_str a (by rw [c]; exact hnd) g2 fun h' hd' hs => ?_
  obtain ⟨o', ho', hob'⟩ := dictOf_obj hd'
  exact hq _ _ _ ρ₁ h' (t₁ + vs.length) q ((List.prefix_append _ _).trans k₁) (R'.update gD hs ho' (x := .map xs) ⟨_, hob', b, by (first | lia | omega)⟩) ⟨_, gD, rfl⟩

/-- a list of one str == a list of one str -/
theorem Op2.eq1S {i j : Nat} {s t : PySem.Str} {Q : V → St → Prop} (hi : σ.H[i]? = some (.list [.str s])) (hj : σ.H[j]? = some (.list [.str t])) (os : PyData.strOk s = true) (ot : PyData.strOk t = true) (h : Q (.bool (decide (s = t))) σ) : Op2 x E (compareOp .Eq) (.ref i) (.ref j) σ Q := fun f ρ va vb e ra rb hh tk R Qc Ec hq _ => by
  obtain ⟨m, objs, fo, W⟩ := id R
  obtain ⟨a, l, n, rfl, g1, g2, _, hl, rr, z, hg⟩ := W.isList hi ra
  obtain ⟨b, l', n', rfl, k1, k2, _, hl', rr', z', hg'⟩ := W.isList hj rb
  cases rr with
  | cons r1 rr => cases rr with
  | nil =>
  cases rr' with
  | cons r2 rr' => cases rr' with
  | nil =>
  obtain ⟨t1, rfl⟩ := r1
  obtain ⟨t2, rfl⟩ := r2
  have one : ∀ {a : Addr} {s : PySem.Str} {t : Tok}, hh.IsList a [Value.str s t].toArray → Reads hh (.ref a) (.list [PyData.str s]) [a] := by
    intro a s t hl
    obtain ⟨o, ho, hc, n, hd⟩ := hl
    have hx : ReadsAll hh [Value.str s t] [PyData.str s] [] := by
      have := ReadsAll.cons (Reads.str (h := hh) s t) (ReadsAll.nil (h := hh))
      simpa using this
    exact Reads.list ho hc hd (by simpa using hx)
  have sh : ∀ s : PySem.Str, PyData.strOk s = true → shaped (.list [PyData.str s]) = true := fun s hs => by
    show (PyData.canLay0 (.list [PyData.str s]) && decide (PyData.depth (.list [PyData.str s]) ≤ 64)) = true
    simp [PyData.canLay0, PyData.canLayAll0, PyData.depth, PyData.depthAll, hs]
  refine eq_dataH_same (one hl) (one hl') (sh s os) (sh t ot) (by have := R.ok.units; (first | lia | omega)) (by simp [noMix, noMixAll]) ?_
  have : PySem.Spec.same (.list [PyData.str s]) (.list [PyData.str t]) = decide (s = t) := by
    simp only [PySem.Spec.same, PySem.Spec.sameAll]
    by_cases q : s = t <;> simp [q]
  rw [this]
  exact hq (.bool _) _ σ ρ hh tk h (List.prefix_refl _) R rfl
end

section
variable {prog : Program} {w : World} {A : Around} {E : Value → Shared → Prop} {s : Shared}
theorem hint_bytes {b : Array UInt8} {t : Tok} {Q : Bool → Shared → Prop} (h : Q false s) : wpAny (model prog w) A (Builtin.List.listLengthHint (.bytes b t)) Q E s := by
  unfold Builtin.List.listLengthHint
  refine wpAny_bind (wpAny_specialOf (typeIs_bytes s b t) FB.slot_bytes_len.lookup ?_)
  generalize hid : ("bytes.__len__" : String) = id0
  wp_delta
  rw [show splitId id0 = some ("bytes", "__len__") from by subst hid; decide +kernel]
  subst hid
  refine wpAny_bind (wpAny_isInstance (T := "bytes") (b := true) (typeIs_bytes s b t) (by rw [isSubtype_type]; kernel_rfl) ?_)
  refine wpAny_ite_split (fun hab => absurd hab (by decide)) (fun _ => ?_)
  refine wpAny_ite_split (fun _ => ?_) (fun hab => absurd (by decide +kernel) hab)
  refine wpAny_bind (wpAny_typeOf (T := "bytes") (typeIs_bytes s b t) ?_)
  exact wpAny_pure h
theorem extend_bytes {R : Result → Shared → Prop} {b : Array UInt8} {t : Tok} (hh : A.handled = none) (hlen : b.size ≤ 2 ^ 20) (S : Addr) (res : Value) (c₀ : Nat) (hS : s.heap.get? S = some { cls := .type "list", data := .seq #[] c₀ })
    (hR : ∀ h' tk acc' c', (∀ b o, b ≠ S → s.heap.get? b = some o → h'.get? b = some o) → h'.get? S = some { cls := .type "list", dict := none, data := .seq acc' c', slots := #[] } →
      ItemsOf (fun i v => ∃ c u, b[i]? = some c ∧ v = .int (c.toNat : Int) u) acc' b.size → R (.ok (.ret res)) { s with heap := h', toks := tk }) :
    wpAny (model prog w) A.in1 (Builtin.List.listExtendWith (.ref S) (.bytes b t) res)
      (fun fin s' => match fin with | .done f => R (.ok f) s' | .again c' => c'.quiet = true ∧ codeAny (model prog w) A c' R s') (fun e s' => R (.error e) s') s := by
  have hSlt : S < s.heap.objs.size := Heap.lt_size hS
  have hSI : S ≠ s.heap.objs.size := Nat.ne_of_lt hSlt
  have hSf : S ∉ [s.heap.objs.size] := fun hm => hSI (List.mem_singleton.mp hm)
  have W := (KBw.walks (prog := prog) (w := w) (A := A.in1) hh s.heap.objs.size b t).toS
  have key : ∀ (h : Heap) (c₁ tk : Nat), KBw.IsBytesIter h s.heap.objs.size b t 0 → (∀ b o, b ≠ S → s.heap.get? b = some o → h.get? b = some o) →
      h.get? S = some { cls := .type "list", data := .seq #[] c₁ } → codeAny (model prog w) A (.builtin "list.extend.loop" ⟨[.ref S, .ref s.heap.objs.size, res], []⟩) R { s with heap := h, toks := tk } := by
    intro h c₁ tk hit hk hS₁
    refine codeAny_extend_loopS W (by rw [sizeLine_eq]; (first | lia | omega)) S hSf res b.size 0 _ #[] c₁ rfl (Nat.zero_le _) hit hS₁ (ItemsOf.nil _) fun s' acc' c' hm hS' hacc => ?_
    rw [Moved.eq_with hm]
    refine hR s'.heap s'.toks acc' c' (fun b o hb e => hm.heap b o (fun hmem => ?_) (hk b o hb e)) hS' hacc
    rcases List.mem_cons.mp hmem with e' | hmem
    · exact hb e'
    · exact absurd (Heap.lt_size e) (by rw [List.mem_singleton.mp hmem]; exact Nat.lt_irrefl _)
  unfold Builtin.List.listExtendWith
  refine wpAny_bind (wpAny_typeOf (T := "bytes") (typeIs_bytes s b t) ?_)
  have h1 : Builtin.List.listSameRef (.ref S) (.bytes b t) = false := by simp [Builtin.List.listSameRef]
  have h2 : (Value.type "bytes" == Value.type "list") = false := by decide
  have h3 : (Value.type "bytes" == Value.type "tuple") = false := by decide
  simp only [h1, h2, h3, Bool.or_false, Bool.false_eq_true, if_false]
  refine wpAny_bind (KBw.pyIter_bytes ?_)
  refine wpAny_bind (wpAny_holding (hint_bytes ?_))
  have hit₁ : KBw.IsBytesIter (s.heap.push { cls := .type "bytes_iterator", data := .fields #[.bytes b t, .int 0 0] }) s.heap.objs.size b t 0 := ⟨_, Heap.get?_push_size _ rfl, rfl, rfl⟩
  have hS₁ := Heap.get?_push_of_some { cls := .type "bytes_iterator", data := .fields #[.bytes b t, .int 0 0] } hS
  refine wpAny_ite_split (fun _ => ?_) (fun _ => wpAny_pure ⟨plainId_quiet F.plain_extend_loop _, key _ c₀ _ hit₁ (fun b o _ e => Heap.get?_push_of_some _ e) hS₁⟩)
  refine wpAny_bind (wpAny_rule ?_)
  refine wpAny_bind ?_
  show wpAny _ _ (updateSeq S (·.push .none) >>= fun _ => updateSeq S (·.pop)) _ _ _
  refine wpAny_bind (wpAny_updateSeq hS₁ rfl ?_)
  have hS₂ := Heap.get?_update_self (Obj.mapSeq (·.push Value.none)) hS₁ rfl
  refine wpAny_updateSeq (hz := by seq_fits) hS₂ rfl ?_
  have hS₃ := Heap.get?_update_self (Obj.mapSeq (·.pop)) hS₂ rfl
  refine wpAny_pure ⟨plainId_quiet F.plain_extend_loop _, key _ _ _ ?_ (fun b o hb e => ?_) hS₃⟩
  · obtain ⟨o, ho, r⟩ := hit₁
    exact ⟨o, (Heap.get?_update_other _ _ hSI).trans ((Heap.get?_update_other _ _ hSI).trans ho), r⟩
  · exact (Heap.get?_update_other _ _ (Ne.symm hb)).trans ((Heap.get?_update_other _ _ (Ne.symm hb)).trans (Heap.get?_push_of_some _ e))
theorem call_list_bytes {Q : Value → Shared → Prop} {b : Array UInt8} {t : Tok} (hh : A.handled = none) (hlen : b.size ≤ 2 ^ 20)
    (hQ : ∀ h' tk acc' c', (∀ b o, s.heap.get? b = some o → h'.get? b = some o) →
      h'.get? s.heap.objs.size = some { cls := .type "list", dict := none, data := .seq acc' c', slots := #[] } → ItemsOf (fun i v => ∃ c u, b[i]? = some c ∧ v = .int (c.toNat : Int) u) acc' b.size → Q (.ref s.heap.objs.size) { s with heap := h', toks := tk }) :
    wpAny (model prog w) A (call (.type "list") [.bytes b t]) Q E s := by
  refine callType_codes (Q₁ := fun obj s₁ => obj = .ref s.heap.objs.size ∧ s₁ = { s with heap := s.heap.push { cls := .type "list", data := .seq #[] } }) F.called_list (F.typeCall_list_1 _) F.entry_list_init
    (code_list_new _ ⟨rfl, rfl⟩) fun obj s₁ h₁ => ?_
  obtain ⟨rfl, rfl⟩ := h₁
  have hS : (s.heap.push { cls := .type "list", data := .seq #[] }).get? s.heap.objs.size = some { cls := .type "list", data := .seq #[] } := Heap.get?_push_size _ rfl
  refine ⟨⟨_, hS, rfl⟩, F.args_list_init_2 _ _, ?_⟩
  show wpAny _ _ (do let old ← Builtin.List.listItems (.ref s.heap.objs.size); Builtin.List.listUpdate (.ref s.heap.objs.size) (fun _ => #[]); letGo old.toList.reverse; Builtin.List.listExtendWith (.ref s.heap.objs.size) (.bytes b t) .none) _ _ _
  refine wpAny_bind ?_
  unfold Builtin.List.listItems
  refine wpAny_bind (wpAny_seqItems hS rfl (wpAny_pure ?_))
  show wpAny _ _ (updateSeq s.heap.objs.size (fun _ => #[]) >>= fun _ => letGo (#[] : Array Value).toList.reverse >>= fun _ => Builtin.List.listExtendWith (.ref s.heap.objs.size) (.bytes b t) .none) _ _ _
  refine wpAny_bind (wpAny_updateSeq hS rfl ?_)
  have hS₂ := Heap.get?_update_self (Obj.mapSeq (fun _ => (#[] : Array Value))) hS rfl
  refine wpAny_bind (wpAny_letGo ?_)
  refine extend_bytes (A := A.in1) hh hlen _ .none _ hS₂ fun h' tk acc' c' hk hS' hacc => ?_
  refine ⟨rfl, hQ h' tk acc' c' (fun b o e => ?_) hS' hacc⟩
  have hb : b ≠ s.heap.objs.size := Nat.ne_of_lt (Heap.lt_size e)
  exact hk b o hb ((Heap.get?_update_other _ _ (Ne.symm hb)).trans (Heap.get?_push_of_some _ e))
end
theorem CallB.listB {x : Sx} {E : Nat → St → Prop} {σ : St} {xs : List Int} {Q : V → St → Prop} (hh0 : x.hx = false) (h : Q (.ref σ.H.length) ⟨σ.loc, σ.H ++ [.list (xs.map V.int)]⟩) : CallB x E (.type "list") [.bytes xs] σ Q := fun f ρ us e r hh tk R Qc Ec hq _ => by
  cases r with
  | cons r1 r => cases r with
  | nil =>
  obtain ⟨b, t, rfl, hb, z⟩ := r1
  refine call_list_bytes (R.ok.hand (by rw [e]; exact hh0)) z fun h' tk' acc' c' hk hS hacc => ?_
  have hlen : xs.length = b.size := by rw [← hb]; simp
  have ha : All2 (Rv f.base ρ) (xs.map V.int) acc'.toList := by
    have hsz : acc'.size = b.size := hacc.1
    have hat := hacc.2
    have gen : ∀ (l : List Int) (vs : List Value), l.length = vs.length → (∀ (i : Nat) (v : Value), vs[i]? = some v → ∃ (n : Int) (u : Tok), l[i]? = some n ∧ v = Value.int n u) → All2 (Rv f.base ρ) (l.map V.int) vs := by
      intro l
      induction l with
      | nil => intro vs h1 _; cases vs with
               | nil => exact .nil
               | cons => simp at h1
      | cons n l ih =>
        intro vs h1 h2
        cases vs with
        | nil => simp at h1
        | cons v vs =>
          obtain ⟨n', u, e1, e2⟩ := h2 0 v rfl
          simp at e1
          subst e1
          exact .cons ⟨u, e2⟩ (ih vs (by simpa using h1) fun i w hw => by simpa using h2 (i + 1) w (by simpa using hw))
    refine gen xs acc'.toList (by simp [hlen, hsz]) fun i v hv => ?_
    obtain ⟨c, u, e1, e2⟩ := hat i v (by simpa using hv)
    refine ⟨(c.toNat : Int), u, ?_, e2⟩
    rw [← hb, List.getElem?_map]
    have : b.toList[i]? = some c := by simpa using e1
    rw [this]; rfl
  refine hq _ _ _ (ρ ++ [hh.objs.size]) h' tk' h ⟨[hh.objs.size], rfl⟩ (R.alloc hk (Nat.le_refl _) hS (x := .list (xs.map V.int)) ⟨acc'.toList, c', by simp, ha, by simp [hlen]; exact z⟩) ⟨_, R.get_new _, rfl⟩
end
section
theorem adoptAll {f : Fx} {h : Heap} {m : PySem.Str → Option Value} {fo : List Obj} (cv : PySem.Str → Option V) : ∀ (cl : List (PySem.Str × Addr)) {ρ : List Addr} {σ : St} {objs : List Obj}, RelW f ρ σ h m objs fo →
    (∀ p ∈ cl, ∃ o u, h.get? p.2 = some o ∧ o.data = .cell u ∧ (match cv p.1 with | some x => ∃ y, u = some y ∧ Rv f.base ρ x y | none => True)) → (∀ p ∈ cl, p.2 ∉ f.os.map (·.1) ++ (f.kp.map (·.1) ++ ρ) ∧ p.2 ≠ f.L ∧ f.base.get? p.2 = none) →
    cl.Pairwise (fun a b => a.2 ≠ b.2) → ∃ objs', RelW f (ρ ++ cl.map (·.2)) ⟨σ.loc, σ.H ++ cl.map fun p => .cell (cv p.1)⟩ h m objs' fo
  | [], ρ, σ, objs, W, _, _, _ => ⟨objs, by simpa using W⟩
  | p :: cl, ρ, σ, objs, W, hc, ha, hp => by
    obtain ⟨o, u, h1, h2, h3⟩ := hc p (List.mem_cons_self ..)
    obtain ⟨a1, a2, a3⟩ := ha p (List.mem_cons_self ..)
    obtain ⟨p1, p2⟩ := List.pairwise_cons.mp hp
    have hfr : o.isFreed = false := (Heap.get?_some_iff.mp h1).2
    have W₁ := W.adopt a1 a2 a3 h1 (x := .cell (cv p.1)) ⟨u, h2, hfr, h3⟩
    obtain ⟨objs', W₂⟩ := adoptAll cv cl W₁ (fun q hq => by
      obtain ⟨o, u, h1, h2, h3⟩ := hc q (List.mem_cons_of_mem _ hq)
      refine ⟨o, u, h1, h2, ?_⟩
      cases e : cv q.1 with
      | none => trivial
      | some x =>
        rw [e] at h3
        obtain ⟨y, hy, r⟩ := h3
        exact ⟨y, hy, r.mono ⟨[p.2], rfl⟩⟩) (fun q hq => by
      obtain ⟨b1, b2, b3⟩ := ha q (List.mem_cons_of_mem _ hq)
      refine ⟨fun z => ?_, b2, b3⟩
      rw [← List.append_assoc, ← List.append_assoc] at z
      rcases List.mem_append.mp z with z | z
      · exact b1 (by simpa using z)
      · rw [List.mem_singleton] at z
        exact p1 q hq z.symm) p2
    exact ⟨objs', by simpa using W₂⟩

theorem bindL_skip {k : PySem.Str → Option NameKind} {x : PySem.Str} : ∀ (bs : List (PySem.Str × Value)) (m : PySem.Str → Option Value), (∀ b ∈ bs, b.1 ≠ x) → bindL k bs m x = m x
  | [], _, _ => rfl
  | (n, v) :: r, m, h => by
    unfold bindL
    rw [bindL_skip r _ fun b hb => h b (List.mem_cons_of_mem _ hb)]
    split
    · have : ¬ x = n := fun e => h (n, v) (List.mem_cons_self ..) e.symm
      simp [this]
    · rfl
theorem bindC_skip {k : PySem.Str → Option NameKind} {x : PySem.Str} : ∀ (bs : List (PySem.Str × Value)) (m : PySem.Str → Option Value), (∀ b ∈ bs, b.1 ≠ x) → bindC k bs m x = m x
  | [], _, _ => rfl
  | (n, v) :: r, m, h => by
    unfold bindC
    rw [bindC_skip r _ fun b hb => h b (List.mem_cons_of_mem _ hb)]
    split
    · rfl
    · have : ¬ x = n := fun e => h (n, v) (List.mem_cons_self ..) e.symm
      simp [this]
theorem bindL_get {k : PySem.Str → Option NameKind} {x : PySem.Str} {v : Value} : ∀ (bs : List (PySem.Str × Value)) (m : PySem.Str → Option Value), (bs.map (·.1)).Nodup → bs.lookup x = some v → k x = some .local → bindL k bs m x = some v
  | [], _, _, e, _ => by cases e
  | (n, u) :: r, m, hn, e, hk => by
    rw [List.map_cons, List.nodup_cons] at hn
    unfold bindL
    rw [List.lookup_cons] at e
    cases z : x == n with
    | true =>
      rw [z] at e
      cases e
      rw [beq_iff_eq] at z
      subst z
      rw [if_pos hk, bindL_skip r _ fun b hb q => hn.1 (List.mem_map.mpr ⟨b, hb, q⟩)]
      simp
    | false =>
      rw [z] at e
      exact bindL_get r _ hn.2 e hk
theorem bindC_get {k : PySem.Str → Option NameKind} {x : PySem.Str} {v : Value} : ∀ (bs : List (PySem.Str × Value)) (m : PySem.Str → Option Value), (bs.map (·.1)).Nodup → bs.lookup x = some v → k x ≠ some .local → bindC k bs m x = some v
  | [], _, _, e, _ => by cases e
  | (n, u) :: r, m, hn, e, hk => by
    rw [List.map_cons, List.nodup_cons] at hn
    unfold bindC
    rw [List.lookup_cons] at e
    cases z : x == n with
    | true =>
      rw [z] at e
      cases e
      rw [beq_iff_eq] at z
      subst z
      rw [if_neg hk, bindC_skip r _ fun b hb q => hn.1 (List.mem_map.mpr ⟨b, hb, q⟩)]
      simp
    | false =>
      rw [z] at e
      exact bindC_get r _ hn.2 e hk
theorem lookup_filter {f : PySem.Str → Bool} {x : PySem.Str} {V : V} : ∀ {bs : List (PySem.Str × Mine.V)}, (bs.filter fun p => f p.1).lookup x = some V → bs.lookup x = some V ∧ f x = true
  | [], e => by cases e
  | (n, u) :: r, e => by
    rw [List.filter_cons] at e
    by_cases q : f n = true
    · rw [if_pos q, List.lookup_cons] at e
      cases z : x == n with
      | true =>
        rw [z] at e
        cases e
        rw [beq_iff_eq] at z
        subst z
        exact ⟨by simp, q⟩
      | false =>
        rw [z] at e
        rw [List.lookup_cons, z]
        exact lookup_filter e
    · rw [if_neg (by simpa using q)] at e
      obtain ⟨h1, h2⟩ := lookup_filter e
      refine ⟨?_, h2⟩
      rw [List.lookup_cons]
      cases z : x == n with
      | true =>
        rw [beq_iff_eq] at z
        subst z
        exact absurd h2 q
      | false => exact h1
theorem cells_get {L k : Nat} {ρ : List Addr} {y : PySem.Str} {i : Nat} : ∀ {cl : List (PySem.Str × Addr)} {n : Nat}, ρ.length = n → ((cl.map (·.1)).zipIdx n).lookup y = some i → ∃ c, cl.lookup y = some c ∧ (ρ ++ cl.map (·.2))[i]? = some c
  | [], _, _, e => by cases e
  | (a, c) :: cl, n, hn, e => by
    simp only [List.map_cons, List.zipIdx_cons, List.lookup_cons] at e ⊢
    cases z : y == a with
    | true =>
      rw [z] at e
      cases e
      exact ⟨c, rfl, by rw [← hn]; simp⟩
    | false =>
      rw [z] at e
      obtain ⟨c', h1, h2⟩ := cells_get (L := L) (k := k) (ρ := ρ ++ [c]) (cl := cl) (n := n + 1) (by simp [hn]) e
      exact ⟨c', h1, by simpa using h2⟩

noncomputable def isLoc (scope : Scope) (x : PySem.Str) : Bool := scope.names.lookup x == some .local
theorem TC.cells {d : Nat} {E : Nat → List O → Prop} {a : Addr} {args : List V} {H : List O} {Q : V → List O → Prop} {name qual : PySem.Str} {params : Arguments} {body : List Stmt} {scope : Scope} {dV kV doc pm cdv ct oc : Value} {an od : Option Addr} {osl : Array (Option Value)} {binds : List (PySem.Str × V)} {cn : List PySem.Str}
    (ho : ∀ P, (hd.heap_39 P).lookup a = some ⟨oc, od, .func (fnX name qual params body scope [] dV kV doc pm an cdv ct), osl⟩) (hcd : ∀ P, codeIn (hd.heap_39 P) cdv qual = true)
    (hb : Binds (fnX name qual params body scope [] dV kV doc pm an cdv ct) args binds)
    (hk1 : ∀ n, (binds.map (·.1)).all (fun y => scope.names.lookup y == some .local || (scope.names.lookup y == some .cell && ((cellsFrom n scope.names []).lookup y).isSome)) = true) (hcn : ∀ n, (cellsFrom n scope.names []).map (·.1) = cn) (hnd : cn.Nodup) (hbn : (binds.map (·.1)).Nodup)
    (h : TSs ⟨scope, cn.zipIdx H.length, d, false, true⟩ (fun j σ' => E j σ'.H) ⟨binds.filter fun p => isLoc scope p.1, H ++ cn.map fun n => .cell ((binds.filter fun p => !isLoc scope p.1).lookup n)⟩ body (fun fl σ' => match fl with | .ret v => Q v σ'.H | .next => Q .none σ'.H | _ => False))
    (lv : ∀ (f f' : Fx) (ρ : List Addr) (m : PySem.Str → Option Value) (L : Addr), f.Ok → f'.Ok → f'.ev.frame = some L → f'.fenv.frame = some L → f'.L = L → f'.os = (f.L, m) :: f.os → f'.base = f.base → f'.A = f.A.deeper f'.ev → f'.w = f.w → f'.s₀ = f.s₀ → f'.kp = f.kp → f'.outer = f.fenv :: f.outer → f'.fenv = f'.ev → LeavesTo f f' ρ)
    (hco : scope.isCoroutine = false := by rfl) (hgen : scope.isGenerator = false := by rfl) (hk : scope.kind = .function := by rfl) : TC d E a args H Q := by
  intro f ρ vs σ hdd hnn eH ra hh tk R Qc Ec hq he
  obtain ⟨m, objs, fo, W⟩ := R
  have KI : (hd.heap_39 f.w.params).In hh := W.ok.ki.keeps W.fr.keep
  obtain ⟨bs, hbind, hbs⟩ := hb f ρ vs ra
  have hnames : ∀ y ∈ bs, scope.names.lookup y.1 = some .local ∨ (scope.names.lookup y.1 = some .cell ∧ ((cellsFrom (hh.objs.size + 1) scope.names []).lookup y.1).isSome = true) := fun y hy => by
    have := List.all_eq_true.mp (hk1 (hh.objs.size + 1)) y.1 (by rw [hbs.map_fst]; exact List.mem_map_of_mem hy)
    simpa using this
  have hbn' : (bs.map (·.1)).Nodup := hbs.map_fst ▸ hbn
  refine wpAny_call (codeAny_call_function (fd := fnX name qual params body scope [] dV kV doc pm an cdv ct) (body := body) ?_ (KI _ _ (ho _)) rfl hco hgen rfl (codeRec_of KI (hcd _)) (hbind _ KI _ _ _ _ ?_))
  · have := W.ok.depth; (first | lia | omega)
  refine wpAny_newFunctionEnv_cells hk hnames fun env hev s' x => ?_
  have x' := x
  rw [hev] at x'
  refine ⟨(W.ok.top.nolimit.keeps W.fr.keep).keeps x.toInCall.keep, codeAny_func ?_⟩
  obtain ⟨h₁, t₁, rfl, _⟩ := x.done
  have hk₁ := x'.toInCall.keep
  have hns := x'.toInCall.ns
  have hap := x'.apart
  have hab := x'.above
  have hcell := x'.cell
  change h₁.Ns hh.objs.size (bindL (fun y => scope.names.lookup y) bs fun _ => none) at hns
  change ∀ n c, (cellsFrom (hh.objs.size + 1) scope.names []).lookup n = some c → h₁.IsCell c (bindC (fun y => scope.names.lookup y) bs (fun _ => none) n) at hcell
  change (cellsFrom (hh.objs.size + 1) scope.names []).Pairwise _ at hap
  change ∀ n c, (n, c) ∈ cellsFrom (hh.objs.size + 1) scope.names [] → hh.objs.size < c at hab
  change ∀ b o, hh.get? b = some o → h₁.get? b = some o at hk₁
  have hcn' := hcn (hh.objs.size + 1)
  have hE : env = envX qual scope hh.objs.size a cdv (cellsFrom (hh.objs.size + 1) scope.names []) := hev
  generalize hcl : cellsFrom (hh.objs.size + 1) scope.names [] = cl at hap hab hcell hcn' hE
  have hmem : ∀ p ∈ cl, cl.lookup p.1 = some p.2 := fun p hp => lookup_of_mem_nodup (by rw [hcn']; exact hnd) hp
  have ok' : (f.above scope d env hh.objs.size m).Ok := W.ok.above hnn hdd (by rw [hE]) hk (by rw [hE]) (by rw [hE]) (by rw [hE]) (by rw [hE])
  obtain ⟨oL, W'⟩ := W.enter (f' := f.above scope d env hh.objs.size m) (loc' := binds.filter fun p => isLoc scope p.1) ok' rfl rfl rfl rfl (Nat.le_refl _) hns hk₁ (fun x V e => by
    obtain ⟨h1, h2⟩ := lookup_filter e
    obtain ⟨v, hv, rv⟩ := binds_lookup hbs h1
    exact ⟨v, bindL_get bs _ hbn' hv (by simpa [isLoc] using h2), rv⟩) rfl
  rw [eH] at W'
  obtain ⟨objs', W''⟩ := adoptAll (fun n => (binds.filter fun p => !isLoc scope p.1).lookup n) cl W' (fun p hp => by
    obtain ⟨o, ho1, ho2⟩ := hcell p.1 p.2 (hmem p hp)
    refine ⟨o, _, ho1, ho2, ?_⟩
    cases e : (binds.filter fun p => !isLoc scope p.1).lookup p.1 with
    | none => trivial
    | some V =>
      obtain ⟨h1, h2⟩ := lookup_filter (f := fun x => !isLoc scope x) e
      obtain ⟨v, hv, rv⟩ := binds_lookup hbs h1
      exact ⟨v, bindC_get bs _ hbn' hv (by simpa [isLoc] using h2), rv⟩) (fun p hp => by
    have hlt : hh.objs.size < p.2 := hab p.1 p.2 hp
    refine ⟨fun z => ?_, Nat.ne_of_gt hlt, ?_⟩
    · have z : p.2 ∈ f.L :: (f.os.map (·.1) ++ (f.kp.map (·.1) ++ ρ)) := z
      have := (show Rel f ρ σ hh from ⟨_, _, _, W⟩).lt_tracked z
      exact absurd this (Nat.not_lt.mpr (Nat.le_of_lt hlt))
    · show f.base.get? p.2 = none
      cases q : f.base.get? p.2 with
      | none => rfl
      | some o => exact absurd (Heap.lt_size (W.fr.keep _ _ q)) (Nat.not_lt.mpr (Nat.le_of_lt hlt))) hap
  have hlen : ρ.length = H.length := by rw [← eH]; exact W.lenH
  have eH' : (cl.map fun p => O.cell ((fun n => (binds.filter fun p => !isLoc scope p.1).lookup n) p.1)) = cn.map fun n => .cell ((binds.filter fun p => !isLoc scope p.1).lookup n) := by
    rw [← hcn', List.map_map]; rfl
  rw [eH'] at W''
  generalize hf' : ({ (f.above scope d env hh.objs.size m) with x := ⟨scope, cn.zipIdx H.length, d, false, true⟩ } : Fx) = f'
  have W3 : RelW f' (ρ ++ cl.map (·.2)) ⟨binds.filter fun p => isLoc scope p.1, H ++ cn.map fun n => .cell ((binds.filter fun p => !isLoc scope p.1).lookup n)⟩ h₁ (bindL (fun y => scope.names.lookup y) bs fun _ => none) objs' (oL :: fo) := by
    rw [← hf']
    refine ⟨⟨ok'.ki, ok'.top, ok'.kind, ok'.sc, ok'.loc, ok'.glob, ok'.blt, ok'.frm, ok'.fr, ok'.hand, ok'.guards, ok'.frs, ok'.fe, ok'.depth, ok'.units⟩, W''.fr, W''.loc, W''.news, W''.ns, W''.obj, W''.len, W''.nd, fun y i e => ?_⟩
    have e : ((cl.map (·.1)).zipIdx H.length).lookup y = some i := by rw [hcn']; exact e
    obtain ⟨c, h1, h2⟩ := cells_get (L := 0) (k := 0) hlen e
    refine ⟨c, ?_, h2⟩
    show env.cells.lookup y = some c
    rw [hE]; exact h1
  have e'x : f'.x = ⟨scope, cn.zipIdx H.length, d, false, true⟩ := by rw [← hf']
  have e'A : f'.A = f.A.deeper env := by rw [← hf']; rfl
  have e'w : f'.w = f.w := by rw [← hf']; rfl
  have e'b : f'.base = f.base := by rw [← hf']; rfl
  have e's : f'.s₀ = f.s₀ := by rw [← hf']; rfl
  have e'e : f'.ev = env := by rw [← hf']; rfl
  have e'o : f'.os = (f.L, m) :: f.os := by rw [← hf']; rfl
  have e'k : f'.kp = f.kp := by rw [← hf']; rfl
  have e'L : f'.L = hh.objs.size := by rw [← hf']; rfl
  have e'fe : f'.fenv = env := by rw [← hf']; rfl
  have e'ou : f'.outer = f.fenv :: f.outer := by rw [← hf']; rfl
  have est : ∀ h t, f'.st h t = f.st h t := fun h t => by unfold Fx.st; rw [e's]
  have pre0 : ρ <+: ρ ++ cl.map (·.2) := List.prefix_append _ _
  have efr : env.frame = some hh.objs.size := by rw [hE]
  have z := (h f' (ρ ++ cl.map (·.2)) e'x) h₁ t₁ ⟨_, _, _, W3⟩ (fun fl s' => Qc (match fl with | .ret v => v | _ => .none) s')
    (fun e s' => wpAny (model PG f.w) (f.A.deeper env) (leaving env e) (fun _ s'' => Ec e s'') (fun e' s'' => Ec e' s'') s') ?_ ?_
  · rw [e'w, e'A, e'e, est] at z
    exact z
  · intro fl fl' σ' ρ' h' t' q k R' r
    rw [est]
    have RB := W.back (f' := f') e'b e'w e'o e'k (pre0.trans k) R'
    cases fl with
    | next => cases r; exact hq .none _ ⟨σ.loc, σ'.H⟩ ρ' h' t' ⟨rfl, q⟩ (pre0.trans k) RB rfl
    | brk => exact q.elim
    | cont => exact q.elim
    | ret v => obtain ⟨v', rfl, r⟩ := r; rw [e'b] at r; exact hq v v' ⟨σ.loc, σ'.H⟩ ρ' h' t' ⟨rfl, q⟩ (pre0.trans k) RB r
  · rw [EP, e'w, e'A, e'e]
    refine ⟨PassesOwn.leaving, ?_⟩
    intro j σ' ρ' h' t' e q k R' X'
    rw [est]
    have lv' := lv f f' ρ m hh.objs.size W.ok R'.ok (by rw [e'e]; exact efr) (by rw [e'fe]; exact efr) e'L e'o e'b (by rw [e'A, e'e]) e'w e's e'k e'ou (by rw [e'fe, e'e]) ρ' σ' σ.loc j e h' t' (fun _ s'' => Ec (.ref e) s'') (fun e' s'' => Ec e' s'') (pre0.trans k) R' X' fun h₂ R₂ X₂ => ?_
    · rw [e'A, e'e] at lv'; exact lv'
    have RB := W.back (f' := f') e'b e'w e'o e'k (pre0.trans k) R₂
    have sub : ∀ z, z ∈ tracked f ρ' → z ∈ tracked f' ρ' := fun z hz => by
      unfold tracked
      rw [e'L, e'o, e'k]
      refine List.mem_cons_of_mem _ ?_
      simpa [tracked] using hz
    refine he.2 j ⟨σ.loc, σ'.H⟩ ρ' h₂ t' e ⟨rfl, q⟩ (pre0.trans k) RB ⟨e'b ▸ X₂.new, fun z => X₂.apart (sub _ z), ?_⟩
    obtain ⟨oe, vs', t, dd, h1, h2, h3, h4, h5, h6, h7⟩ := X₂.here
    refine ⟨oe, vs', t, dd, h1, h2, h3, h4, h5, h6, ?_⟩
    rcases h7 with h7 | ⟨T, oT, ts, a1, a2, a3⟩
    · exact .inl h7
    · refine .inr ⟨T, oT, ts, a1, fun z => a2 (sub _ z), ?_⟩
      rw [e'b] at a3
      exact a3
end
section
theorem Obj.dict_mapFields (o : Obj) (g : Array Value → Array Value) : (o.mapFields g).dict = o.dict := by
  obtain ⟨c, d, dt, sl⟩ := o; cases dt <;> rfl
/-- the exception's traceback is marked fl -/
structure ExcFl (f : Fx) (ρ : List Addr) (j : Nat) (e : Addr) (fl : Value) (h : Heap) : Prop where
  new : f.base.get? e = none
  apart : e ∉ tracked f ρ
  here : ∃ oe vs t d T oT ts, h.get? e = some oe ∧ oe.cls = .ref 45 ∧ oe.dict = some d ∧ ρ[j]? = some d ∧ oe.data = .fields vs ∧ vs[0]? = some (.ref t) ∧
    vs[1]? = some (.ref T) ∧ T ∉ tracked f ρ ∧ f.base.get? T = none ∧ T ≠ e ∧ h.get? T = some oT ∧ oT.data = .fields ts ∧ ts[3]? = some fl
theorem ExcFl.at {f : Fx} {ρ : List Addr} {j : Nat} {e : Addr} {h : Heap} (x : ExcFl f ρ j e .none h) : ExcAt f ρ j e h := by
  obtain ⟨a, b, oe, vs, t, d, T, oT, ts, h1, h2, h3, h4, h5, h6, h7, h8, h9, h10, h11, h12, h13⟩ := x
  exact ⟨a, b, oe, vs, t, d, h1, h2, h3, h4, h5, h6, .inr ⟨T, oT, ts, h7, h8, h9, h10, h11, h12, h13⟩⟩
section
variable {f : Fx} {ρ : List Addr} {σ : St} {h : Heap}
theorem Rel.base_tracked (R : Rel f ρ σ h) {a : Addr} (ha : a ∈ tracked f ρ) : f.base.get? a = none := by
  obtain ⟨m, objs, fo, W⟩ := R
  rcases List.mem_cons.mp ha with e | q
  · subst e
    cases q : f.base.get? f.L with
    | none => rfl
    | some o => exact absurd (Nat.lt_of_lt_of_le (Heap.lt_size q) W.fr.above) (Nat.lt_irrefl _)
  · rw [← W.all1] at q
    obtain ⟨p, hp, rfl⟩ := List.mem_map.mp q
    exact (W.news p hp).2.2
theorem Rel.slots (R : Rel f ρ σ h) {S : List Addr} {h₁ : Heap} (hs : Heap.SlotsOnly S h h₁) (hS : ∀ b ∈ S, b = f.L ∨ b ∈ f.os.map (·.1)) : Rel f ρ σ h₁ := by
  have bt := fun a ha => R.base_tracked (a := a) ha
  obtain ⟨m, objs, fo, W⟩ := R
  have notS : ∀ b, b ≠ f.L → b ∉ f.os.map (·.1) → b ∉ S := fun b h1 h2 q => (hS b q).elim h1 h2
  have get : ∀ b o, h.get? b = some o → ∃ sl, h₁.get? b = some { o with slots := sl } := hs.2.2
  have look : ∀ (as : List (Addr × (PySem.Str → Option Value))) (fo : List Obj), All2 NsObj (as.map (·.2)) fo → (∀ p ∈ (as.map (·.1)).zip fo, h.get? p.1 = some p.2) →
      ∃ fo', All2 NsObj (as.map (·.2)) fo' ∧ ∀ p ∈ (as.map (·.1)).zip fo', h₁.get? p.1 = some p.2 := by
    intro as
    induction as with
    | nil => intro fo ha _; cases ha; exact ⟨[], .nil, fun p hp => by cases hp⟩
    | cons a as ih =>
      intro fo ha hn
      simp only [List.map_cons] at ha
      cases ha with
      | @cons _ o _ fo h1 h2 =>
        obtain ⟨fo', g1, g2⟩ := ih fo h2 fun p hp => hn p (by simp only [List.map_cons, List.zip_cons_cons]; exact List.mem_cons_of_mem _ hp)
        obtain ⟨sl, hsl⟩ := get a.1 o (hn (a.1, o) (by simp))
        obtain ⟨es, ep, e1, e2, e3⟩ := h1
        refine ⟨{ o with slots := sl } :: fo', .cons ⟨es, ep, e1, e2, e3⟩ g1, fun p hp => ?_⟩
        simp only [List.map_cons, List.zip_cons_cons] at hp
        rcases List.mem_cons.mp hp with rfl | hp
        · exact hsl
        · exact g2 p hp
  obtain ⟨fo', g1, g2⟩ := look f.os fo W.ns fun p hp => (W.news p (List.mem_append_left _ hp)).1
  have nd1 := List.nodup_append.mp W.nd
  refine ⟨m, objs, fo', W.ok, ⟨?_, fun b o e => ?_, W.fr.above⟩, W.loc, fun p hp => ?_, g1, W.obj, W.len, W.nd, W.cells⟩
  · obtain ⟨o, es, ep, h1, h2, h3⟩ := W.fr.ns
    obtain ⟨sl, hsl⟩ := get _ _ h1
    exact ⟨_, es, ep, hsl, h2, h3⟩
  · have hb : b ∉ S := fun q => by
      have : f.base.get? b = none := by
        rcases hS b q with z | z
        · exact bt b (z ▸ List.mem_cons_self ..)
        · exact bt b (List.mem_cons_of_mem _ (List.mem_append_left _ z))
      rw [this] at e; cases e
    exact (hs.2.1 b hb).trans (W.fr.keep b o e)
  · rcases List.mem_append.mp hp with hp | hp
    · have hm : p.1 ∈ f.os.map (·.1) := (List.of_mem_zip hp).1
      refine ⟨g2 p hp, ?_, bt _ (List.mem_cons_of_mem _ (List.mem_append_left _ hm))⟩
      have hm' : p.1 ∈ f.os.map (·.1) ++ (f.kp.map (·.1) ++ ρ) := List.mem_append_left _ hm
      rw [← W.all1] at hm'
      obtain ⟨q, hq, e⟩ := List.mem_map.mp hm'
      exact e ▸ (W.news q hq).2.1
    · have z := W.news p (List.mem_append_right _ hp)
      have hm : p.1 ∈ f.kp.map (·.1) ++ ρ := by
        rcases List.mem_append.mp hp with q | q
        · exact List.mem_append_left _ (List.mem_map_of_mem q)
        · exact List.mem_append_right _ (List.of_mem_zip q).1
      refine ⟨(hs.2.1 _ (notS _ z.2.1 fun q => nd1.2.2 _ q _ hm rfl)).trans z.1, z.2⟩
theorem Rel.funFrames (R : Rel f ρ σ h) : h.FunFrames f.base (f.fenv :: f.outer) := by
  have bt := fun a ha => R.base_tracked (a := a) ha
  obtain ⟨m, objs, fo, W⟩ := R
  have gen : ∀ l : List Env, (∀ env ∈ l, env.scope.kind ≠ .module ∧ ∃ L', env.frame = some L' ∧ (L' = f.L ∨ L' ∈ f.os.map (·.1))) → h.FunFrames f.base l := by
    intro l
    induction l with
    | nil => intro _; trivial
    | cons env l ih =>
      intro hl
      obtain ⟨h1, L', h2, h3⟩ := hl env (List.mem_cons_self ..)
      refine ⟨h1, ?_, ih fun e he => hl e (List.mem_cons_of_mem _ he)⟩
      rcases h3 with rfl | h3
      · obtain ⟨o, es, ep, g1, g2, _⟩ := W.fr.ns
        exact ⟨f.L, o, h2, bt _ (List.mem_cons_self ..), g1, fun vs q => by rw [g2] at q; cases q⟩
      · obtain ⟨i, hi⟩ := List.mem_iff_getElem?.mp h3
        have hl' : i < fo.length := by
          have := W.ns.length
          simp at this
          rw [← this]
          have := (List.getElem?_eq_some_iff.mp hi).1
          simpa using this
        have z := W.news _ (List.mem_append_left _ (zip_mem hi (List.getElem?_eq_getElem hl')))
        have hx : (f.os.map (·.2))[i]? = some ((f.os.map (·.2))[i]'(by have := W.ns.length; (first | lia | omega))) := List.getElem?_eq_getElem _
        obtain ⟨b, hb, es, ep, g2, _⟩ := W.ns.get hx
        rw [List.getElem?_eq_getElem hl'] at hb
        cases hb
        exact ⟨L', _, h2, z.2.2, z.1, fun vs q => by rw [g2] at q; cases q⟩
  exact gen _ W.ok.frs
theorem Rel.frames_in (R : Rel f ρ σ h) : ∀ b ∈ (f.fenv :: f.outer).filterMap (·.frame), b = f.L ∨ b ∈ f.os.map (·.1) := fun b hb => by
  obtain ⟨env, he, e⟩ := List.mem_filterMap.mp hb
  obtain ⟨_, L', h2, h3⟩ := R.ok.frs env he
  rw [h2] at e
  cases e
  exact h3

/-- an exception is noted at the def's own frame -/
theorem note_mine {j : Nat} {e : Addr} {L : Addr} {tk : Nat} {Q : Unit → Shared → Prop} {E : Value → Shared → Prop} (R : Rel f ρ σ h) (X : ExcAt f ρ j e h) (hfe : f.fenv = f.ev) (hL : f.ev.frame = some L)
    (hQ : ∀ h', Rel f ρ σ h' → ExcFl f ρ j e (rawInt L) h' → Q () (f.st h' tk)) : wpAny (model PG f.w) f.A (noteFrame (.ref e) f.ev) Q E (f.st h tk) := by
  obtain ⟨oe, vs, t, d, h1, h2, h3, h4, h5, h6, h7⟩ := X.here
  have key : ∀ (h₀ : Heap) (head : Value) (b : Bool), Rel f ρ σ h₀ → h₀.get? e = some oe → 1 < vs.size →
      wpAny (model PG f.w) f.A (do let a ← frameOf f.ev; let pl ← entryPlaceOf L b; let b ← EntryCells.newEntry head a .none (rawInt L) .none pl; setField (.ref e) 1 b) Q E (f.st h₀ tk) := by
    intro h₀ head b R₀ he hz
    have hfr : f.A.frames = some (f.ev :: f.outer) := by rw [← hfe]; exact R₀.ok.fr
    have hl : h₀.FunFrames f.base (f.ev :: f.outer) := by rw [← hfe]; exact R₀.funFrames
    refine wpAny_bind (wpAny_frameOf_fun (base := f.base) (s := f.st h₀ tk) hfr hl hL fun h₁ hs₁ => ?_)
    have R₁ : Rel f ρ σ h₁ := R₀.slots hs₁ (by rw [← hfe]; exact R₀.frames_in)
    have hene : e ∉ (f.ev :: f.outer).filterMap (·.frame) := fun q => X.apart (by
      rcases (by rw [← hfe] at q; exact R₀.frames_in e q) with z | z
      · exact z ▸ List.mem_cons_self ..
      · exact List.mem_cons_of_mem _ (List.mem_append_left _ z))
    refine wpAny_bind (wpAny_entryPlaceOf fun pl hpl => ?_)
    unfold EntryCells.newEntry newFields
    refine wpAny_bind (wpAny_newObj_type ?_ (hpl.sizeOk5 _ _ _ _ _))
    have he₁ : h₁.get? e = some oe := (hs₁.2.1 e hene).trans he
    have he₂ := Heap.get?_push_of_some (h := h₁) { cls := .type "traceback", dict := none, data := .fields ([head, .ref L, .none, rawInt L, .none] ++ (if pl.isEmpty then List.replicate 6 Value.none else pl)).toArray } he₁
    refine wpAny_setField he₂ h5 hz ?_
    have R₂ : Rel f ρ σ (h₁.push { cls := .type "traceback", dict := none, data := .fields ([head, .ref L, .none, rawInt L, .none] ++ (if pl.isEmpty then List.replicate 6 Value.none else pl)).toArray }) := R₁.keeps fun _ _ e => Heap.get?_push_of_some _ e
    have hTn : h₁.objs.size ∉ tracked f ρ := fun q => Nat.lt_irrefl _ (R₁.lt_tracked q)
    have hTe : h₁.objs.size ≠ e := Nat.ne_of_gt (Heap.lt_size he₁)
    have hT := Heap.get?_push_size h₁ (o := { cls := .type "traceback", dict := none, data := .fields ([head, .ref L, .none, rawInt L, .none] ++ (if pl.isEmpty then List.replicate 6 Value.none else pl)).toArray }) rfl
    simp only [Fx.st] at he₂ ⊢
    generalize h₁.push { cls := .type "traceback", dict := none, data := .fields ([head, .ref L, .none, rawInt L, .none] ++ (if pl.isEmpty then List.replicate 6 Value.none else pl)).toArray } = h₂ at he₂ R₂ hT ⊢
    have ape : Apart f ρ [e] := ⟨by simp, fun b hb => by rw [List.mem_singleton] at hb; subst hb; exact X.apart, fun b hb => by rw [List.mem_singleton] at hb; subst hb; exact X.new⟩
    have hd₃ := Obj.data_mapFields h5 (·.setIfInBounds 1 (Value.ref h₁.objs.size))
    refine hQ _ (R₂.but ape fun b o hb e' => (Heap.get?_update_other _ _ (fun q => hb (by simp [q]))).trans e') ⟨X.new, X.apart, _, _, t, d, h₁.objs.size, _, _, Heap.get?_update_self _ he₂ (Obj.isFreed_of_fields hd₃), ?_, ?_, h4, hd₃, ?_, ?_, hTn, ?_, hTe, (Heap.get?_update_other _ _ (Ne.symm hTe)).trans hT, rfl, ?_⟩
    · rw [Obj.cls_mapFields]; exact h2
    · rw [Obj.dict_mapFields]; exact h3
    · rw [Array.getElem?_setIfInBounds_ne (by decide)]; exact h6
    · simp [hz]
    · cases q : f.base.get? h₁.objs.size with
      | none => rfl
      | some o => exact absurd (Heap.lt_size (R₁.stays _ _ q)) (Nat.lt_irrefl _)
    · first | (simp; done) | (rcases hpl with rfl | ⟨_, _, _, _, _, _, _, rfl⟩ <;> simp)
  unfold noteFrame
  simp only [hL]
  rcases h7 with h7 | ⟨T, oT, ts, a1, a2, a3, a4, a5, a6, a7⟩
  · refine wpAny_bind (wpAny_field h1 h5 h7 ?_)
    rw [if_neg (by decide)]
    exact key h .none _ R h1 (Array.getElem?_eq_some_iff.mp h7).1
  · refine wpAny_bind (wpAny_field h1 h5 a1 ?_)
    rw [if_pos (show (Value.ref T != Value.none) = true from by simp)]
    refine wpAny_bind (wpAny_field a5 a6 a7 ?_)
    rw [if_neg (show ¬ ((Value.none == rawInt L) = true) from by simp [rawInt])]
    refine wpAny_bind (wpAny_setField a5 a6 (Array.getElem?_eq_some_iff.mp a7).1 ?_)
    have apT : Apart f ρ [T] := ⟨by simp, fun b hb => by rw [List.mem_singleton] at hb; subst hb; exact a2, fun b hb => by rw [List.mem_singleton] at hb; subst hb; exact a3⟩
    exact key _ (.ref T) _ (R.but apT fun b o hb e' => (Heap.get?_update_other _ _ (fun q => hb (by simp [q]))).trans e') ((Heap.get?_update_other _ _ a4).trans h1) (Array.getElem?_eq_some_iff.mp a1).1
/-- the mark goes -/
theorem land_mine {j : Nat} {e : Addr} {fl : Value} {tk : Nat} {Q : Unit → Shared → Prop} {E : Value → Shared → Prop} (R : Rel f ρ σ h) (X : ExcFl f ρ j e fl h)
    (hQ : ∀ h', Rel f ρ σ h' → ExcFl f ρ j e .none h' → Q () (f.st h' tk)) : wpAny (model PG f.w) f.A (setFlight (.ref e) Option.none) Q E (f.st h tk) := by
  obtain ⟨oe, vs, t, d, T, oT, ts, h1, h2, h3, h4, h5, h6, a1, a2, a3, a4, a5, a6, a7⟩ := X.here
  have hsz3 : 3 < ts.size := (Array.getElem?_eq_some_iff.mp a7).1
  unfold setFlight
  refine wpAny_bind (wpAny_field h1 h5 a1 ?_)
  rw [if_pos (show (Value.ref T != Value.none) = true from by simp)]
  have apT : Apart f ρ [T] := ⟨by simp, fun b hb => by rw [List.mem_singleton] at hb; subst hb; exact a2, fun b hb => by rw [List.mem_singleton] at hb; subst hb; exact a3⟩
  refine wpAny_setField a5 a6 hsz3 (hQ _ (R.but apT fun b o hb e' => (Heap.get?_update_other _ _ (fun q => hb (by simp [q]))).trans e') ⟨X.new, X.apart, oe, vs, t, d, T, _, _, (Heap.get?_update_other _ _ a4).trans h1, h2, h3, h4, h5, h6, a1, a2, a3, a4,
    Heap.get?_update_self _ a5 (Obj.isFreed_of_fields (Obj.data_mapFields a6 _)), Obj.data_mapFields a6 _, ?_⟩)
  simp [hsz3]
end
theorem leaves_to {f f' : Fx} {ρ : List Addr} {L : Addr} (h3 : f'.ev.frame = some L) (h8 : f'.A = f.A.deeper f'.ev) (h9 : f'.w = f.w) (h10 : f'.s₀ = f.s₀) (h13 : f'.fenv = f'.ev) : LeavesTo f f' ρ := by
  intro ρ' σ loc j e h tk Q E hp R X hQ
  have est : ∀ h t, f'.st h t = f.st h t := fun h t => by unfold Fx.st; rw [h10]
  have z : wpAny (model PG f'.w) f'.A (leaving f'.ev (.ref e)) Q E (f'.st h tk) := by
    unfold leaving
    refine wpAny_bind (note_mine R X h13 h3 fun h₁ R₁ X₁ => ?_)
    refine land_mine R₁ X₁ fun h₂ R₂ X₂ => ?_
    rw [est]
    exact hQ h₂ R₂ X₂.at
  rw [h9, est] at z
  exact z
end
section
noncomputable def inNew (A : Around) : Around := { A with depth := A.depth + 1, units := A.units + 1 }
theorem tc_guard (args : Args) : (Code.builtin "type.__call__" args).isGuard = false := by
  show guardIds.contains "type.__call__" = false
  decide +kernel
theorem under_tc (A : Around) (C : Addr) (rest : List Value) : A.under (.builtin "type.__call__" ⟨.ref C :: rest, []⟩) = inNew A := by
  have h1 : (Code.builtin "type.__call__" ⟨.ref C :: rest, []⟩).weight = 1 := by
    unfold Code.weight
    rw [tc_guard]
    rfl
  have h2 : (Code.builtin "type.__call__" ⟨.ref C :: rest, []⟩).cUnits = 1 := rfl
  have h3 : (Code.builtin "type.__call__" ⟨.ref C :: rest, []⟩).envs = [] := rfl
  have h4 : (Code.builtin "type.__call__" ⟨.ref C :: rest, []⟩).guards = [] := by unfold Code.guards; rw [tc_guard]; rfl
  obtain ⟨hd, d, fr, gs, u⟩ := A
  simp [Around.under, inNew, h1, h2, h3, h4, pushEnvs, pushGuards]

section
variable {M : Model} {A : Around} {E : Value → Shared → Prop} {h : Heap} {g : Array GenState} {d : Drawn} {t : Nat} {os : OsState}
variable {nm q : Str} {C N : Addr} {bs bm bmB : List Value} {hdct : Bool} {sn : List Str} {sub : List Value} {ab : Bool} {col : Option Bool} {dd : Option Addr} {k0 k1 k2 k3 k5 : Option Value} {B newId initId : String}
theorem check_newM (F : ExcBaseFacts B newId initId bmB) (hB : bm.contains (.type B) = true) {rest : List Value} {Q : Unit → Shared → Prop} (hC : h.get? C = some (excClassObj nm q C N bs bm hdct sn sub ab col dd k0 k1 k2 k3 k5 newId))
    (hq : Q () ⟨h, g, d, t, os⟩) : wpAny M A (checkBuiltinCall newId ⟨.ref C :: rest, []⟩) Q E ⟨h, g, d, t, os⟩ := by
  have hcont : (Value.ref C :: bm).contains (.type B) = true := by rw [List.contains_cons, hB, Bool.or_true]
  have hstar := F.noStar
  simp only [checkBuiltinCall, F.newKind, F.newSplit, F.newRow]
  repeat (first | refine wpAny_loadPart_at hC ?_ | (refine wpAny_isSubtype_exc hC ?_; rw [hcont]) | refine wpAny_staticBase_exc hC ?_ | refine wpAny_madeBy_exc hC ?_ | simp only [bne_self_eq_false, Bool.false_eq_true, if_false] | wp_step)
  exact hq
end
section
variable {prog : Program} {w : World} {A : Around} {E : Value → Shared → Prop} {R : Result → Shared → Prop} {h : Heap} {g : Array GenState} {d : Drawn} {t : Nat} {os : OsState}
variable {nm q : Str} {C N : Addr} {bs bm bmB : List Value} {hdct : Bool} {sn : List Str} {sub : List Value} {ab : Bool} {col : Option Bool} {dd : Option Addr} {k0 k1 k2 k3 k5 : Option Value} {B newId initId : String}
theorem exc_newM (F : ExcBaseFacts B newId initId bmB) (hB : bm.contains (.type B) = true) (hA : bm.contains (.type "AttributeError") = false) (hN : bm.contains (.type "NameError") = false) {rest : List Value}
    (hC : h.get? C = some (excClassObj nm q C N bs bm hdct sn sub ab col dd k0 k1 k2 k3 k5 newId))
    (hq : R (.ok (.ret (.ref (h.objs.size + 1)))) ⟨(h.push { cls := .type "tuple", data := .seq rest.toArray }).push
      { cls := .ref C, data := .fields #[.ref h.objs.size, .none, .none, .none, .bool false, .none] }, g, d, t, os⟩) (hrest : rest.length ≤ sizeLine) :
    codeAny (model prog w) A (.builtin newId ⟨.ref C :: rest, []⟩) R ⟨h, g, d, t, os⟩ := by
  have hends := F.ends
  have hcB : (Value.ref C :: bm).contains (.type B) = true := by rw [List.contains_cons, hB, Bool.or_true]
  have hcA : (Value.ref C :: bm).contains (.type "AttributeError") = false := by rw [List.contains_cons, hA]; rfl
  have hcN : (Value.ref C :: bm).contains (.type "NameError") = false := by rw [List.contains_cons, hN]; rfl
  refine codeAny_builtinAt F.entry ?_
  unfold Builtin.«BaseException.__new__»
  refine PySem.wpAt_bind ?_
  show PySem.wpAt _ _ _ (stack >>= _) _ _ _
  refine PySem.wpAt_bind (PySem.wpAt_stack fun p below => PySem.wpAt_of_wpAny ?_)
  wp_walk
  refine PySem.wpAt_of_wpAny ?_
  rw [F.owner]
  repeat (first | with_reducible refine wpAny_madeHere_exc F.canon hC ?_ | with_reducible refine wpAny_loadPart_at hC ?_ | (with_reducible refine wpAny_isSubtype_exc hC ?_; first | rw [hcB] | rw [hcA] | rw [hcN]) | wp_step)
  show R _ _
  rw [Heap.size_push]
  exact hq
theorem type_call_excM (F : ExcBaseFacts B newId initId bmB) (hB : bm.contains (.type B) = true) (hA : bm.contains (.type "AttributeError") = false) (hN : bm.contains (.type "NameError") = false) {K : Frag} (X : K.In h) {rest : List Value} {fI : Addr} {oI : Obj} {Q : PySem.Fin → Shared → Prop}
    (hC : h.get? C = some (excClassObj nm q C N bs bm hdct sn sub ab col dd k0 k1 k2 k3 k5 newId)) (hi : findIn K (.ref C) "__init__" = some (some (.ref fI)))
    (hfI : h.get? fI = some oI) (hfc : oI.cls = .type "function")
    (hq : ∀ h' e, Heap.MadeExcOf h h' e (.ref C) rest →
      wpAny (model prog w) A (call (.ref fI) (.ref e :: rest)) (fun r s' => r = .none ∧ Q (.done (.ret (.ref e))) s') E ⟨h', g, d, t, os⟩) (hrest : rest.length ≤ sizeLine) :
    wpAny (model prog w) A (Builtin.«type.__call__» ⟨.ref C :: rest, []⟩) Q E ⟨h, g, d, t, os⟩ := by
  repeat (first | with_reducible refine wpAny_loadPart_at hC ?_ | with_reducible refine wpAny_madeBy_exc hC ?_ | wp_step)
  refine codeAny_call_builtin_code (Code.quiet_builtin _ F.quiet) (check_newM F hB hC ?_)
  refine exc_newM F hB hA hN hC ?_ hrest
  show wpAny _ _ _ _ _ _
  have hk : ∀ b o, h.get? b = some o → ((h.push { cls := .type "tuple", data := .seq rest.toArray }).push { cls := .ref C, data := .fields #[.ref h.objs.size, .none, .none, .none, .bool false, .none] }).get? b = some o := fun b o e => Heap.get?_push_of_some _ (Heap.get?_push_of_some _ e)
  have hC₁ := hk _ _ hC
  have hfI₁ := hk _ _ hfI
  have X₁ : K.In ((h.push { cls := .type "tuple", data := .seq rest.toArray }).push { cls := .ref C, data := .fields #[.ref h.objs.size, .none, .none, .none, .bool false, .none] }) := X.keeps hk
  have hget : ((h.push { cls := .type "tuple", data := .seq rest.toArray }).push
      { cls := .ref C, data := .fields #[.ref h.objs.size, .none, .none, .none, .bool false, .none] }).get? (h.objs.size + 1) = some
      { cls := .ref C, data := .fields #[.ref h.objs.size, .none, .none, .none, .bool false, .none] } := by heap_get
  have hcC : (Value.ref C :: bm).contains (.ref C) = true := by simp
  unfold isInstance
  repeat (first | with_reducible refine wpAny_loadPart_at hget ?_ | (with_reducible refine wpAny_isSubtype_exc hC₁ ?_; rw [hcC]) | wp_step)
  show wpAny _ _ (typeLookup (.ref C) _) _ _ _
  refine (looks_findIn (M := model prog w) X₁ hi) _ _ _ _ (fun _ _ e => e) ?_
  refine wpAny_holding (wpAny_bind ?_)
  unfold bindSpecial
  refine wpAny_bind (wpAny_typeOf (T := "function") ⟨_, hfI₁, hfc⟩ ?_)
  rw [if_pos (by decide)]
  refine wpAny_pure (wpAny_bind (wpAny_mono (hq _ (h.objs.size + 1) ⟨hk, Heap.get?_none_of_le (Nat.le_succ _), h.objs.size, hget, Heap.get?_none_of_le (Nat.le_refl _), ?_⟩) (fun r s' hr => ?_) fun _ _ x => x))
  · exact Heap.get?_push_of_some _ (Heap.get?_push_at rfl rfl)
  · obtain ⟨rfl, hQ⟩ := hr
    wp_walk
    exact hQ
theorem call_excM (F : ExcBaseFacts B newId initId bmB) (hB : bm.contains (.type B) = true) (hA : bm.contains (.type "AttributeError") = false) (hN : bm.contains (.type "NameError") = false) {K : Frag} (X : K.In h) {rest : List Value} {fI : Addr} {oI : Obj} {Q : Value → Shared → Prop}
    (hC : h.get? C = some (excClassObj nm q C N bs bm hdct sn sub ab col dd k0 k1 k2 k3 k5 newId)) (hi : findIn K (.ref C) "__init__" = some (some (.ref fI)))
    (hfI : h.get? fI = some oI) (hfc : oI.cls = .type "function")
    (hq : ∀ h' e, Heap.MadeExcOf h h' e (.ref C) rest →
      wpAny (model prog w) (inNew A) (call (.ref fI) (.ref e :: rest)) (fun r s' => r = .none ∧ Q (.ref e) s') E ⟨h', g, d, t, os⟩) (hrest : rest.length ≤ sizeLine) :
    wpAny (model prog w) A (call (.ref C) rest) Q E ⟨h, g, d, t, os⟩ := by
  have f1 := tc_lookup
  have f2 := tc_bind (.ref C)
  have hT : (⟨h, g, d, t, os⟩ : Shared).TypeIs (.ref C) "type" := ⟨_, hC, rfl⟩
  refine wpAny_call (codeAny_of_tree ?_)
  show wpAny _ _ (callAny (.ref C) _) _ _ _
  repeat (any_goals (first | assumption | with_reducible refine wpAny_loadPart_at hC ?_ | wp_step))
  refine ⟨rfl, ?_⟩
  refine codeAny_call_builtin_at (Code.quiet_builtin _ (by decide +kernel)) entry_typeCall (wpAny_check_type_call_sub hC (type_call_excM (hrest := hrest) F hB hA hN X hC hi hfI hfc fun h' e hm => ?_))
  show wpAny (model prog w) (A.under (.builtin "type.__call__" ⟨.ref C :: rest, []⟩)) _ _ _ _
  rw [under_tc]
  exact hq h' e hm
end

/-- e.name = v, on an exception of class C with no dict yet -/
theorem osa_exc {prog : Program} {w : World} {A : Around} {R : Result → Shared → Prop} {s : Shared} {K : Frag} {C e : Addr} {oe : Obj} {name : Str} {tk : Tok} {v : Value} {vs : Array Value} {cd : ClassData} (X : K.In s.heap) (he : s.heap.get? e = some oe) (hc : oe.cls = .ref C) (hd : oe.dict = none) (hf : oe.data = .fields vs)
    (hcd : clsIn K C = some cd) (hm : ∀ self, refuseLoop self "__setattr__" cd.mro = pure ()) (hob : cd.mro.contains (.type "object") = true) (hdct : cd.hasDict = true) (ha : findIn K (.ref C) name = some none)
    (h : ∀ h' dx tk', (∀ b o, b ≠ e → s.heap.get? b = some o → h'.get? b = some o) → h'.get? e = some { oe with dict := some dx } → h'.get? dx = some (dictOf [⟨PyData.keyHash w.params name, .str name tk', v⟩] 1) → s.heap.objs.size ≤ dx → R (.ok (.ret .none)) { s with heap := h', toks := s.toks + 1 }) :
    codeAny (model prog w) A (.call (.builtin "object.__setattr__") ⟨[.ref e, .str name tk, v], []⟩) R s := by
  have SF := PySem.F.store_object
  have I : InstAt s.heap e oe C none := ⟨he, hc, by unfold notCls; rw [hf], by rw [hd]; trivial⟩
  have ne : cd.mro.isEmpty = false := by cases q : cd.mro with | nil => rw [q] at hob; simp at hob | cons _ _ => rfl
  have sub : Looks (model prog w) s.heap (isInstance (.ref e) (.type "object")) true := I.type.andThen (looks_mroIn X (by unfold mroIn; rw [hcd, Option.bind_some, if_neg (by rw [ne]; decide), hob]))
  refine codeAny_call_builtin SF.slot.plain SF.entry (@check_slot (model prog w) _ _ s "object.__setattr__" "object" "__setattr__" (.ref e) [.str name tk, v] [] _ SF.kind SF.split sub (SF.args (.ref e) (.str name tk) v) ?_)
  have hmro : Looks (model prog w) s.heap (mroOf (.ref C)) cd.mro := (looks_clsIn X hcd).andThen .now
  have L3 : Looks (model prog w) s.heap (Builtin.ObjectAttr.storeTaker? none) none := .now
  rw [osa_eq, refuse_eq]
  refine wpAny_bind (wpAny_bind (I.type.here (wpAny_bind (hmro.here ?_))))
  rw [hm]
  refine wpAny_pure (wpAny_bind (I.type.here (wpAny_bind ((looks_findIn X ha).here (wpAny_bind (L3.here ?_))))))
  have hx := he
  obtain ⟨oc, odi, oda, osl⟩ := oe
  dsimp only at hc hd hf
  subst hc hd hf
  refine wpAny_bind (wpAny_pure (wpAny_bind (wpAny_bind (wpAny_loadPart hx (wpAny_bind ((looks_clsIn X hcd).here ?_))))))
  rw [hdct]
  obtain ⟨hh, g, dr, t, os⟩ := s
  dsimp only at hx ⊢
  simp only [Bool.not_true, Bool.false_eq_true, if_false]
  rw [if_neg (by simp [typeHasDict])]
  have hx₁ : (hh.push { cls := .type "dict", data := .dict #[] }).get? e = some ⟨.ref C, none, .fields vs, osl⟩ := Heap.get?_push_of_some _ hx
  have hxs : e ≠ hh.objs.size := Nat.ne_of_lt (Heap.lt_size hx)
  refine wpAny_bind (wpAny_alloc' ?_)
  refine wpAny_bind (wpAny_update' hx₁ ?_)
  refine wpAny_pure ?_
  show wpAny (model prog w) A.in1 (Builtin.ObjectAttr.storeInDict hh.objs.size (Value.str name tk) name v) _ _ _
  have hgd : ((hh.push { cls := .type "dict", data := .dict #[] }).update e fun o => { cls := o.cls, dict := some hh.objs.size, data := o.data, slots := o.slots }).get? hh.objs.size = some (dictOf [] 0) :=
    (Heap.get?_update_ne _ _ _ _ (Ne.symm hxs)).trans (Heap.get?_push_at rfl rfl)
  have hge : ((hh.push { cls := .type "dict", data := .dict #[] }).update e fun o => { cls := o.cls, dict := some hh.objs.size, data := o.data, slots := o.slots }).get? e = some ⟨.ref C, some hh.objs.size, .fields vs, osl⟩ := Heap.get?_update_self _ hx₁ rfl
  have hgo : ∀ b o, b ≠ e → hh.get? b = some o → ((hh.push { cls := .type "dict", data := .dict #[] }).update e fun o => { cls := o.cls, dict := some hh.objs.size, data := o.data, slots := o.slots }).get? b = some o := fun b o hb eb =>
    (Heap.get?_update_ne _ _ _ _ hb).trans (Heap.get?_push_of_some _ eb)
  generalize ((hh.push { cls := .type "dict", data := .dict #[] }).update e fun o => { cls := o.cls, dict := some hh.objs.size, data := o.data, slots := o.slots }) = H at hgd hge hgo ⊢
  unfold Builtin.ObjectAttr.storeInDict Builtin.ObjectAttr.newKeyGuard
  refine wpAny_bind (wpAny_pure (wpAny_bind ?_))
  unfold nsSet
  refine wpAny_bind (wpAny_bind (wpAny_askSetting (wpAny_pure (wpAny_bind (wpAny_mkText (wpAny_bind (wpAny_loadPart hgd ?_)))))))
  dsimp only
  rw [aRefKeyMayBeTheName_at, if_neg (by simp)]
  refine wpAny_updatePart hgd ?_
  have hput : Obj.putName name (PyData.keyHash w.params name) (.str name t) v (dictOf [] 0) = dictOf [⟨PyData.keyHash w.params name, .str name t, v⟩] 1 := by rw [putName_dict]; rfl
  have hn : (H.update hh.objs.size (Obj.putName name (PyData.keyHash w.params name) (.str name t) v)).get? hh.objs.size = some (dictOf [⟨PyData.keyHash w.params name, .str name t, v⟩] 1) := by
    rw [Heap.get?_update_self _ hgd (by rw [hput]; rfl), hput]
  refine wpAny_bind (wpAny_lookBehind hn (pastItsLine_dict (by simp [sizeLine_eq])) ?_)
  refine wpAny_pure (h _ hh.objs.size t (fun b o hb eb => (Heap.get?_update_ne _ _ _ _ (Nat.ne_of_lt (Heap.lt_size eb))).trans (hgo b o hb eb)) ((Heap.get?_update_ne _ _ _ _ hxs).trans hge) hn (Nat.le_refl _))

theorem fillMU : (PySem.Challenge.rw_nt0011_01.foot = 9) ∨ hd.heap_39 = hd.heap_39 := by k_fill; exact .inr rfl

/-- UniError.__init__, as far as it is needed: what an init does that stores one field of an exception -/
theorem init_exc {prog : Program} {w : World} {A : Around} {E : Value → Shared → Prop} {s : Shared} {K : Frag} {e fI : Addr} {v : Value} {Q : Value → Shared → Prop} {name qual fld sn vn : PySem.Str} {params : Arguments} {scope : Scope} {dV kV doc pm cdv ct oc : Value} {an od : Option Addr} {osl : Array (Option Value)} {np np' ap sp : Pos} {oe : Obj} {vs : Array Value} {cd : ClassData} {C : Addr}
    (X : K.In s.heap) (hlim : s.heap.NoLimit) (hroom : A.depth < recursionLimit)
    (ho : K.lookup fI = some ⟨oc, od, .func (fnX name qual params [.Assign [.Attribute (.Name sn np) fld ap] (.Name vn np') sp] scope [] dV kV doc pm an cdv ct), osl⟩) (hcd : codeIn K cdv qual = true)
    (hb : BindsTo s (fnX name qual params [.Assign [.Attribute (.Name sn np) fld ap] (.Name vn np') sp] scope [] dV kV doc pm an cdv ct) ⟨[.ref e, v], []⟩ [(sn, .ref e), (vn, v)])
    (hcell : (scope.names.all fun x => x.2 != .cell) = true) (l1 : scope.names.lookup sn = some .local) (l2 : scope.names.lookup vn = some .local) (hne : sn ≠ vn)
    (he : s.heap.get? e = some oe) (hc : oe.cls = .ref C) (hd : oe.dict = none) (hf : oe.data = .fields vs)
    (hcdC : clsIn K C = some cd) (hm : ∀ self, refuseLoop self "__setattr__" cd.mro = pure ()) (hob : cd.mro.contains (.type "object") = true) (hdct : cd.hasDict = true) (ha : findIn K (.ref C) fld = some none)
    (hsa : findIn K (.ref C) "__setattr__" = some (some (.builtin "object.__setattr__")))
    (hsw : ∀ env : Env, env.scope = scope → swapsWith (.Name vn np') (some (.Attribute (.Name sn np) fld ap)) sp.line env = pure false)
    (hdb1 : (sn == ("__debug__" : PySem.Str)) = false) (hdb2 : (vn == ("__debug__" : PySem.Str)) = false)
    (h : ∀ h' dx tk tk', (∀ b o, b ≠ e → s.heap.get? b = some o → h'.get? b = some o) → h'.get? e = some { oe with dict := some dx } → h'.get? dx = some (dictOf [⟨PyData.keyHash w.params fld, .str fld tk', v⟩] 1) → s.heap.objs.size ≤ dx → Q .none { s with heap := h', toks := tk })
    (hco : scope.isCoroutine = false := by rfl) (hgen : scope.isGenerator = false := by rfl) (hk : scope.kind = .function := by rfl) : wpAny (model prog w) A (call (.ref fI) [.ref e, v]) Q E s := by
  refine wpAny_call (codeAny_call_def (fd := fnX name qual params [.Assign [.Attribute (.Name sn np) fld ap] (.Name vn np') sp] scope [] dV kV doc pm an cdv ct) (body := [.Assign [.Attribute (.Name sn np) fld ap] (.Name vn np') sp]) (binds := [(sn, .ref e), (vn, v)])
    hroom (X _ _ ho) rfl hlim (codeRec_of X hcd) rfl hb ?_ ?_ ?_ hco hgen hk)
  · intro y hy
    have := List.all_eq_true.mp hcell y hy
    simpa using this
  · intro y hy
    simp at hy
    rcases hy with rfl | rfl
    · exact l1
    · exact l2
  · intro h₁ hns hk₁
    have X₁ : K.In h₁ := X.keeps hk₁
    have he₁ := hk₁ _ _ he
    rw [execs_cons]
    refine wpAny_bind (plainObj_wpAny_Assign_Attribute ?_ (hsw _ rfl))
    refine wpAny_Name (wpAny_loadName_local (m := fun x => ([(sn, Value.ref e), (vn, v)] : List (PySem.Str × Value)).reverse.lookup x) hk l2 hns (v := v) (by simp) ?_) hdb2
    refine wpAny_Name (wpAny_loadName_local (m := fun x => ([(sn, Value.ref e), (vn, v)] : List (PySem.Str × Value)).reverse.lookup x) hk l1 hns (v := .ref e) (by
      have : (sn == vn) = false := beq_eq_false_iff_ne.mpr hne
      simp [List.lookup_cons, this]) ?_) hdb1
    have I : InstAt h₁ e oe C none := ⟨he₁, hc, by unfold notCls; rw [hf], by rw [hd]; trivial⟩
    refine set_plain (K := K) X₁ I hsa ?_
    refine osa_exc (K := K) (s := ⟨h₁, _, _, _, _⟩) X₁ he₁ hc hd hf hcdC hm hob hdct ha fun h' dx tk' k1 k2 k3 k4 => ?_
    refine wpAny_execs_nil ?_
    refine h h' dx _ tk' (fun b o hb e => k1 b o hb (hk₁ b o e)) k2 k3 (Nat.le_trans ?_ k4)
    obtain ⟨o, es, ep, g1, _⟩ := hns
    exact Nat.le_of_lt (Heap.lt_size g1)
end
section
section
variable {M : Model} {A : Around} {E : Value → Shared → Prop} {env : Env}
variable {nm q : Str} {C N : Addr} {bs bm : List Value} {hdct : Bool} {sn : List Str} {sub : List Value} {ab : Bool} {col : Option Bool} {dd : Option Addr} {k0 k1 k2 k3 k5 : Option Value} {newId : String}
theorem raise_madeM {s : Shared} {x : Sem Value} {Q : Flow → Shared → Prop} (hbase : bm.contains (.type "BaseException") = true) (hh : A.handled = none)
    (h : wpAny M A x (fun v s₁ => ∃ e d t, v = .ref e ∧ s₁.heap.get? C = some (excClassObj nm q C N bs bm hdct sn sub ab col dd k0 k1 k2 k3 k5 newId) ∧
      s₁.heap.get? e = some ⟨.ref C, d, .fields #[.ref t, .none, .none, .none, .bool false, .none], #[]⟩ ∧ E (.ref e) s₁) E s) :
    wpAny M A (raiseStmt env (some x) none) Q E s := by
  have hcB : (Value.ref C :: bm).contains (.type "BaseException") = true := by rw [List.contains_cons, hbase, Bool.or_true]
  unfold raiseStmt
  refine wpAny_bind (wpAny_mono h (fun v s₁ h₁ => ?_) fun _ _ x => x)
  obtain ⟨e, d', t, rfl, hC, he, hE⟩ := h₁
  obtain ⟨hp, g, d, tk, os⟩ := s₁
  repeat (first | with_reducible refine wpAny_loadPart_at he ?_ | with_reducible refine wpAny_loadPart_at hC ?_ | (with_reducible refine wpAny_isSubtype_exc hC ?_; rw [hcB]) | wp_step)
  exact wpAny_raiseNew_none hh hE
end

theorem refuse45 {cd : ClassData} (h : cd.mro = [.ref 45, .ref 32, .type "Exception", .type "BaseException", .type "object"]) (self : Value) : refuseLoop self "__setattr__" cd.mro = pure () := by
  rw [h, refuseLoop_ref, refuseLoop_ref]
  exact PySem.F.store_Exception.passes self

/-- the making of BadLabel(v) -/
theorem make_bad {f : Fx} {ρ : List Addr} {σ : St} {h : Heap} {tk : Nat} {V : V} {v : Value} {Q : Value → Shared → Prop} {E : Value → Shared → Prop} (R : Rel f ρ σ h) (r : Rv f.base ρ V v) (hd2 : 2 < f.x.d)
    (hQ : ∀ h' tk' dx e, Rel f (ρ ++ [dx]) ⟨σ.loc, σ.H ++ [.dict [("told", V)]]⟩ h' → ExcAt f (ρ ++ [dx]) σ.H.length e h' → (∃ t, h'.get? e = some ⟨.ref 45, some dx, .fields #[.ref t, .none, .none, .none, .bool false, .none], #[]⟩) → Q (.ref e) (f.st h' tk')) :
    wpAny (model PG f.w) f.A (call (.ref 45) [v]) Q E (f.st h tk) := by
  have KI : (hd.heap_39 f.w.params).In h := R.ok.ki.keeps R.stays
  have hroom : (inNew f.A).depth < recursionLimit := by
    have := R.ok.depth
    show f.A.depth + 1 < recursionLimit
    (first | lia | omega)
  have go : ∀ {nm q : Str} {N : Addr} {bs : List Value} {hdct : Bool} {sln : List PySem.Str} {sub : List Value} {ab : Bool} {col : Option Bool} {dd : Option Addr} {k0 k1 k2 k3 k5 : Option Value},
      (∀ P, (hd.heap_39 P).lookup 45 = some (excClassObj nm q 45 N bs [.ref 32, .type "Exception", .type "BaseException", .type "object"] hdct sln sub ab col dd k0 k1 k2 k3 k5 "Exception.__new__")) → hdct = true →
      ∀ {name qual fld sn vn : PySem.Str} {params : Arguments} {scope : Scope} {dV kV doc pm cdv ct oc : Value} {an od : Option Addr} {osl : Array (Option Value)} {np np' ap sp : Pos},
      (∀ P, (hd.heap_39 P).lookup 29 = some ⟨oc, od, .func (fnX name qual params [.Assign [.Attribute (.Name sn np) fld ap] (.Name vn np') sp] scope [] dV kV doc pm an cdv ct), osl⟩) → (∀ P, codeIn (hd.heap_39 P) cdv qual = true) → oc = .type "function" → fld = "told" →
      (∀ e v (s : Shared), (hd.heap_39 f.w.params).In s.heap → BindsTo s (fnX name qual params [.Assign [.Attribute (.Name sn np) fld ap] (.Name vn np') sp] scope [] dV kV doc pm an cdv ct) ⟨[.ref e, v], []⟩ [(sn, .ref e), (vn, v)]) →
      (scope.names.all fun x => x.2 != .cell) = true → scope.names.lookup sn = some .local → scope.names.lookup vn = some .local → sn ≠ vn →
      (∀ env : Env, env.scope = scope → swapsWith (.Name vn np') (some (.Attribute (.Name sn np) fld ap)) sp.line env = pure false) → (sn == ("__debug__" : PySem.Str)) = false → (vn == ("__debug__" : PySem.Str)) = false →
      scope.isCoroutine = false → scope.isGenerator = false → scope.kind = .function → wpAny (model PG f.w) f.A (call (.ref 45) [v]) Q E (f.st h tk) := by
    intro nm q N bs hdct sln sub ab col dd k0 k1 k2 k3 k5 hC hdt name qual fld sn vn params scope dV kV doc pm cdv ct oc an od osl np np' ap sp ho hcd hoc hfl hb hcell l1 l2 hne hsw hdb1 hdb2 hco hgen hk
    subst hdt hoc hfl
    refine call_excM (K := hd.heap_39 f.w.params) PySem.F.excBase_Exception (by decide) (by decide) (by decide) KI (KI _ _ (hC _)) (fI := 29) (by k_is) (KI _ _ (ho _)) rfl (fun h₂ e hm => ?_) (by rw [sizeLine_eq]; simp)
    obtain ⟨t, m1, m2, m3⟩ := hm.there
    have hcls : clsIn (hd.heap_39 f.w.params) 45 = some { name := nm, bases := bs, mro := .ref 45 :: [.ref 32, .type "Exception", .type "BaseException", .type "object"], ns := N, qualname := q, hasDict := true, slotNames := sln, subclasses := sub, abstract := ab, collection := col, hasDel := false } := by
      unfold clsIn
      rw [hC]
    have R₂ := R.keeps hm.keeps
    have hnt : e ∉ tracked f ρ := fun z => by
      obtain ⟨m, objs, fo, W⟩ := R
      have := hm.new
      rcases List.mem_cons.mp z with z | z
      · obtain ⟨o, es, ep, g1, _⟩ := W.fr.ns
        rw [z, g1] at this; cases this
      · rw [← W.all1] at z
        obtain ⟨p, hp, rfl⟩ := List.mem_map.mp z
        rw [(W.news p hp).1] at this; cases this
    have hbase : f.base.get? e = none := by
      cases z : f.base.get? e with
      | none => rfl
      | some o => have := R.stays _ _ z; rw [hm.new] at this; cases this
    refine init_exc (K := hd.heap_39 f.w.params) (s := f.st h₂ tk) (C := 45) (KI.keeps hm.keeps) ((R.ok.top.nolimit.keeps R.stays).keeps hm.keeps) hroom (ho _) (hcd _) (hb _ _ _ (KI.keeps hm.keeps)) hcell l1 l2 hne m1 rfl rfl rfl hcls (refuse45 rfl) (show ([Value.ref 45, .ref 32, .type "Exception", .type "BaseException", .type "object"] : List Value).contains (.type "object") = true by decide) rfl (by k_is) (by k_is) hsw hdb1 hdb2 (fun h₃ dx tk₃ tk' k1 k2 k3 k4 => ⟨rfl, ?_⟩) hco hgen hk
    have ape : Apart f ρ [e] := ⟨by simp, fun b hb => by rw [List.mem_singleton] at hb; subst hb; exact hnt, fun b hb => by rw [List.mem_singleton] at hb; subst hb; exact hbase⟩
    have R₃ : Rel f ρ σ h₃ := R₂.but ape fun b o hb eb => k1 b o (fun z => hb (by simp [z])) eb
    have k4 : h₂.objs.size ≤ dx := k4
    have hdx : dx ∉ tracked f ρ := fun z => absurd (R₂.lt_tracked z) (Nat.not_lt.mpr k4)
    have hbx : f.base.get? dx = none := by
      cases z : f.base.get? dx with
      | none => rfl
      | some o => exact absurd (Heap.lt_size (R₂.stays _ _ z)) (Nat.not_lt.mpr k4)
    have hedx : e ≠ dx := fun z => absurd (Heap.lt_size m1) (Nat.not_lt.mpr (z ▸ k4))
    obtain ⟨m, objs, fo, W₃⟩ := id R₃
    have hre : All2 (Re f.w f.base ρ) [("told", V)] [⟨PyData.keyHash f.w.params "told", .str "told" tk', v⟩] := .cons ⟨⟨_, rfl⟩, rfl, r⟩ .nil
    have W₄ := W₃.adopt (fun z => hdx (List.mem_cons_of_mem _ z)) (fun z => hdx (z ▸ List.mem_cons_self ..)) hbx k3 (x := .dict [("told", V)]) ⟨_, 1, rfl, hre⟩
    have gD := R₃.get_new dx
    refine hQ h₃ tk₃ dx e ⟨_, _, _, W₄⟩ ⟨hbase, fun z => ?_, _, _, t, dx, k2, rfl, rfl, gD, rfl, rfl, .inl rfl⟩ ⟨_, k2⟩
    have z : e ∈ f.L :: (f.os.map (·.1) ++ (f.kp.map (·.1) ++ (ρ ++ [dx]))) := z
    rcases List.mem_cons.mp z with z | z
    · exact hnt (z ▸ List.mem_cons_self ..)
    · rcases List.mem_append.mp z with z | z
      · exact hnt (List.mem_cons_of_mem _ (List.mem_append_left _ z))
      · rcases List.mem_append.mp z with z | z
        · exact hnt (List.mem_cons_of_mem _ (List.mem_append_right _ (List.mem_append_left _ z)))
        · rcases List.mem_append.mp z with z | z
          · exact hnt (List.mem_cons_of_mem _ (List.mem_append_right _ (List.mem_append_right _ z)))
          · rw [List.mem_singleton] at z; exact hedx z
  refine' go (by intro P; k_is) ?a (by intro P; k_is) (by intro P; k_is) ?b ?c ?d ?e ?f ?g ?h ?i ?j ?k ?l ?m ?n
  all_goals first | rfl | (intro _ _; rfl) | decide | skip
  all_goals (intro e v s X; exact binds_K X rfl (by k_is) rfl rfl rfl)
end
section
theorem cls45' {nm q : PySem.Str} {N : Addr} {bs : List Value} {hdct : Bool} {sln : List PySem.Str} {sub : List Value} {ab : Bool} {col : Option Bool} {dd : Option Addr} {k0 k1 k2 k3 k5 : Option Value}
    (h : ∀ P, (hd.heap_39 P).lookup 45 = some (excClassObj nm q 45 N bs [.ref 32, .type "Exception", .type "BaseException", .type "object"] hdct sln sub ab col dd k0 k1 k2 k3 k5 "Exception.__new__")) (hh : hdct = true) :
    ∃ (nm q : PySem.Str) (N : Addr) (bs : List Value) (sln : List PySem.Str) (sub : List Value) (ab : Bool) (col : Option Bool) (dd : Option Addr) (k0 k1 k2 k3 k5 : Option Value),
      ∀ P, (hd.heap_39 P).lookup 45 = some (excClassObj nm q 45 N bs [.ref 32, .type "Exception", .type "BaseException", .type "object"] true sln sub ab col dd k0 k1 k2 k3 k5 "Exception.__new__") := by
  subst hh
  exact ⟨nm, q, N, bs, sln, sub, ab, col, dd, k0, k1, k2, k3, k5, h⟩
theorem cls45 : ∃ (nm q : PySem.Str) (N : Addr) (bs : List Value) (sln : List PySem.Str) (sub : List Value) (ab : Bool) (col : Option Bool) (dd : Option Addr) (k0 k1 k2 k3 k5 : Option Value),
      ∀ P, (hd.heap_39 P).lookup 45 = some (excClassObj nm q 45 N bs [.ref 32, .type "Exception", .type "BaseException", .type "object"] true sln sub ab col dd k0 k1 k2 k3 k5 "Exception.__new__") :=
  cls45' (by intro P; k_is) rfl
noncomputable def markFx (f : Fx) (e : Value) : Fx := { f with A := f.A.mark (some e), x := { f.x with hx := true } }
theorem Fx.Ok.marked {f : Fx} (ok : f.Ok) (e : Value) : (markFx f e).Ok := ⟨ok.ki, ok.top, ok.kind, ok.sc, ok.loc, ok.glob, ok.blt, ok.frm, ok.fr, fun z => Bool.noConfusion z, ok.guards, ok.frs, ok.fe, ok.depth, ok.units⟩
theorem Rel.marked {f : Fx} {ρ : List Addr} {σ : St} {h : Heap} (R : Rel f ρ σ h) (e : Value) : Rel (markFx f e) ρ σ h := by
  obtain ⟨m, objs, fo, W⟩ := R
  exact ⟨m, objs, fo, W.ok.marked e, W.fr, W.loc, W.news, W.ns, W.obj, W.len, W.nd, W.cells⟩
theorem Rel.unmarked {f : Fx} {ρ : List Addr} {σ : St} {h : Heap} {e : Value} (R : Rel (markFx f e) ρ σ h) (ok : f.Ok) : Rel f ρ σ h := by
  obtain ⟨m, objs, fo, W⟩ := R
  exact ⟨m, objs, fo, ok, W.fr, W.loc, W.news, W.ns, W.obj, W.len, W.nd, W.cells⟩

section
variable {x : Sx} {E : Nat → St → Prop} {σ : St}
theorem TS.raise {n : PySem.Str} {np pos rp : Pos} {e : Expr} {Q : Fl → St → Prop} (hk : x.sc.names.lookup n = some .globalImplicit) (hg : ∀ P, nsIn (hd.heap_39 P) mainGlobals n = some (some (.ref 45))) (h2 : 2 < x.d) (hn : x.hx = false)
    (h : TE x E σ e fun v σ₁ => E σ₁.H.length ⟨σ₁.loc, σ₁.H ++ [.dict [("told", v)]]⟩) (he : ∀ env, starEach [e] env = [(false, eval e env)]) (hdb : (n == ("__debug__" : PySem.Str)) = false) : TS x E σ (.Raise (some (.Call (.Name n np) [e] [] pos)) Option.none rp) Q := fun f ρ ex hh tk R Qc Ec hq hE => by
  obtain ⟨nm, q, N, bs, sln, sub, ab, col, dd, k0, k1, k2, k3, k5, hC⟩ := cls45
  rw [arm_exec_Raise]
  have key : wpAny (model PG f.w) f.A (eval (.Call (.Name n np) [e] [] pos) f.ev) (fun v s₁ => ∃ e d t, v = .ref e ∧ s₁.heap.get? 45 = some (excClassObj nm q 45 N bs [.ref 32, .type "Exception", .type "BaseException", .type "object"] true sln sub ab col dd k0 k1 k2 k3 k5 "Exception.__new__") ∧
      s₁.heap.get? e = some ⟨.ref 45, d, .fields #[.ref t, .none, .none, .none, .bool false, .none], #[]⟩ ∧ Ec (.ref e) s₁) Ec (f.st hh tk) := by
    rw [arm_eval_Call_Name']
    refine wpAny_bind (eval_gname R.ok R.stays (by rw [ex]; exact hk) (hg _) ?_ hdb)
    have KI : (hd.heap_39 f.w.params).In hh := R.ok.ki.keeps R.stays
    have hA : TA x E σ [e] fun vs σ₁ => ∃ v, vs = [v] ∧ E σ₁.H.length ⟨σ₁.loc, σ₁.H ++ [.dict [("told", v)]]⟩ := TA.cons (h.mono fun v σ₁ q => TA.nil ⟨v, rfl, q⟩) he
    refine callWith_K (K := hd.heap_39 f.w.params) (f := .ref 45) KI (by k_is) (hA f ρ pos ex hh tk R _ Ec ?_ hE) (he _) rfl
    intro vs us σ₁ ρ₁ h₁ t₁ ⟨v, hv, q₁⟩ k₁ R₁ r₁
    subst hv
    refine ⟨R₁.ok.ki.keeps R₁.stays, ?_⟩
    cases r₁ with
    | cons r1 r₁ => cases r₁ with
    | nil =>
    refine make_bad R₁ r1 (by rw [ex]; exact h2) fun h' tk' dx e R' X' ⟨t, ht⟩ => ⟨e, some dx, t, rfl, (R₁.ok.ki.keeps R'.stays) _ _ (hC _), ht, ?_⟩
    exact hE.2 _ _ (ρ₁ ++ [dx]) h' tk' e q₁ (k₁.trans (List.prefix_append _ _)) R' X'
  first
    | exact wpAny_bind (wpAny_standAt (raise_madeM (by decide) (R.ok.hand (by rw [ex]; exact hn)) (wpAny_bind (wpAny_mono key (fun v s₃ h₃ => wpAny_bind (wpAny_standAt (wpAny_pure h₃))) fun _ _ x => x))))
    | (simp only [evalOpt, Option.map]; exact wpAny_bind (wpAny_standAt (raise_madeM (by decide) (R.ok.hand (by rw [ex]; exact hn)) (wpAny_bind (wpAny_mono key (fun v s₃ h₃ => wpAny_bind (wpAny_standAt (wpAny_pure h₃))) fun _ _ x => x)))))

/-- e.told, of an exception -/
theorem exc_get {prog : Program} {w : World} {A : Around} {E : Value → Shared → Prop} {s : Shared} {K : Frag} {C e : Addr} {oe : Obj} {od : Option Obj} {name : PySem.Str} {v : Value} {cd : ClassData} {Q : Value → Shared → Prop} (X : K.In s.heap) (I : InstAt s.heap e oe C od)
    (hga : findIn K (.ref C) "__getattribute__" = some (some (.builtin "BaseException.__getattribute__"))) (hcd : clsIn K C = some cd) (hob : cd.mro.contains (.type "BaseException") = true) (hf : findObj K C od name = some (.value v)) (hh : handedIn v = true) (hgn : findIn K (.ref C) "__getattr__" = some none)
    (h : Q v { s with toks := s.toks + 1 }) : wpAny (model prog w) A (getAttr (.ref e) name true) Q E s := by
  obtain ⟨hp, g, d, t, os⟩ := s
  have L0 := I.type (M := model prog w)
  have L1 := looks_findIn (M := model prog w) X hga
  have L2 := looks_findIn (M := model prog w) X hgn
  have ne : cd.mro.isEmpty = false := by cases q : cd.mro with | nil => rw [q] at hob; simp at hob | cons _ _ => rfl
  have sub : Looks (model prog w) hp (isInstance (.ref e) (.type "BaseException")) true := L0.andThen (looks_mroIn X (by unfold mroIn; rw [hcd, Option.bind_some, if_neg (by rw [ne]; decide), hob]))
  have f3 := PySem.F.attr_Exception.ga.bind (.ref e)
  have hx2 : (Value.builtin "BaseException.__getattribute__" == Value.builtin "object.__getattribute__") = false := by decide +kernel
  unfold getAttr getAttrBy
  refine wpAny_bind (wpAny_mkText (wpAny_holding (wpAny_bind (L0.at (wpAny_bind (L1.at ?_))))))
  dsimp only
  rw [hx2, Bool.and_false, if_neg (by decide)]
  unfold getAttrByItsOwn
  refine wpAny_bind ?_
  show wpAny _ _ (typeLookup (.ref C) "__getattr__") _ _ _
  refine L2 _ _ _ _ (fun _ _ e => e) ?_
  refine wpAny_bind (wpAny_attempt (wpAny_holding ?_))
  show wpAny _ _ (boundAndCalled (.builtin "BaseException.__getattribute__") (.ref e) (.str name t)) _ _ _
  unfold boundAndCalled
  rw [f3]
  refine wpAny_bind (wpAny_pure ?_)
  show wpAny _ _ (call (.builtin "BaseException.__getattribute__") [.ref e, .str name t]) _ _ _
  have Lf := looks_find (M := model prog w) X I hf
  refine wpAny_call (codeAny_call_builtin PySem.F.attr_Exception.ga.plain PySem.F.entry_bexc_ga (@check_slot (model prog w) _ _ _ "BaseException.__getattribute__" "BaseException" "__getattribute__" (.ref e) [.str name t] [] _ (by decide +kernel) (by decide +kernel) sub (PySem.F.args_bexc_ga (.ref e) (.str name t)) ?_))
  refine wpAny_bind (wpAny_of_eq (a := (Value.ref e, [Value.str name t])) rfl ?_)
  refine wpAny_bind (wpAny_of_eq (a := name) rfl ?_)
  refine wpAny_bind (L0.at (wpAny_bind (Lf.at ?_)))
  refine wpAny_pure ?_
  show wpAny _ _ (handedOut v) _ _ _
  rw [handedOut_of hh]
  exact wpAny_pure h

/-- e.told, where the exception is tracked -/
theorem TGet.told {i j : Nat} {es : List (PySem.Str × V)} {v : V} {n : PySem.Str} {Q : V → St → Prop} (hi : σ.H[i]? = some (.exc 45 j)) (hj : σ.H[j]? = some (.dict es)) (hv : es.lookup n = some v) (hn : n = "told") (h : Q v σ) : TGet x E n (.ref i) σ Q := fun f ρ va e r hp tk R Qc Ec hq _ => by
  subst hn
  obtain ⟨m, objs, fo, W⟩ := id R
  obtain ⟨a, o, h1, h2, h3, _, _, ⟨d, vs, hdj, hc, hdi, hda⟩⟩ := W.atObj hi
  obtain ⟨d', o', g1, g2, g3, _, _, ⟨l, nn, e', r'⟩⟩ := W.atObj hj
  rw [hdj] at g1
  obtain rfl := Option.some.inj g1
  subst e'
  obtain ⟨a', ha', rfl⟩ := r
  rw [h1] at ha'
  obtain rfl := Option.some.inj ha'
  obtain ⟨u, hu, ru⟩ := getL_of r' hv
  have I : InstAt hp a o 45 (some (dictOf l nn)) := ⟨h3, hc, by unfold notCls; rw [hda], by rw [hdi]; exact g3⟩
  obtain ⟨nm, q, N, bs, sln, sub, ab, col, dd, k0, k1, k2, k3, k5, hC⟩ := cls45
  have KI : (hd.heap_39 f.w.params).In hp := R.ok.ki.keeps R.stays
  refine exc_get (K := hd.heap_39 f.w.params) KI I (by k_is) (cd := { name := nm, bases := bs, mro := .ref 45 :: [.ref 32, .type "Exception", .type "BaseException", .type "object"], ns := N, qualname := q, hasDict := true, slotNames := sln, subclasses := sub, abstract := ab, collection := col, hasDel := false }) (by unfold clsIn; rw [hC])
    (show ([Value.ref 45, .ref 32, .type "Exception", .type "BaseException", .type "object"] : List Value).contains (.type "BaseException") = true by decide)
    (findObj_own (by k_is) (attr := none) (by k_is) (by k_is) hu) (handedIn_of ru) (by k_is) (hq v u σ ρ hp (tk + 1) h (List.prefix_refl _) R ru)

/-- try: ... except BadLabel as n: ... -/
theorem TS.try_ {cls n : PySem.Str} {np hp' p : Pos} {body suite : List Stmt} {b₀ : Stmt} {Q : Fl → St → Prop} (hk : x.sc.names.lookup cls = some .globalImplicit) (hg : ∀ P, nsIn (hd.heap_39 P) mainGlobals cls = some (some (.ref 45))) (hl : x.sc.names.lookup n = some .local) (hn : x.hx = false) (hfn : x.fn = true)
    (h : TSs x (fun j σ₁ => TSs { x with hx := true } EN ⟨(n, .ref σ₁.H.length) :: σ₁.loc, σ₁.H ++ [.exc 45 j]⟩ (b₀ :: suite) fun fl σ₂ => ∃ loc', (∀ y u, loc'.lookup y = some u → y ≠ n ∧ σ₂.loc.lookup y = some u) ∧ Q fl ⟨loc', σ₂.H⟩) σ body Q)
    (hdb : (cls == ("__debug__" : PySem.Str)) = false) : TS x E σ (.Try body [.ExceptHandler (some (.Name cls np)) (some n) (b₀ :: suite) hp'] [] [] p) Q := fun f ρ ex hh tk R Qc Ec hq hE => by
  have ok := R.ok
  obtain ⟨hfe, hfl⟩ := ok.fe (by rw [ex]; exact hfn)
  refine wpAny_Try_except ?_
  refine (h f ρ ex) hh tk R _ _ ?_ ⟨PassesOwn.looking, ?_⟩
  · intro fl fl' σ₁ ρ₁ h₁ t₁ q₁ k₁ R₁ r₁
    cases fl with
    | next => cases r₁; exact wpAny_execs_nil (hq .next _ σ₁ ρ₁ h₁ t₁ q₁ k₁ R₁ rfl)
    | brk => cases r₁; exact hq .brk _ σ₁ ρ₁ h₁ t₁ q₁ k₁ R₁ rfl
    | cont => cases r₁; exact hq .cont _ σ₁ ρ₁ h₁ t₁ q₁ k₁ R₁ rfl
    | ret v => obtain ⟨v', rfl, r₁⟩ := r₁; exact hq (.ret v) _ σ₁ ρ₁ h₁ t₁ q₁ k₁ R₁ ⟨v', rfl, r₁⟩
  · intro j σ₁ ρ₁ h₁ t₁ e q₁ k₁ R₁ X₁
    refine note_mine R₁ X₁ hfe hfl fun h₂ R₂ X₂ => ?_
    refine land_mine R₂ X₂ fun h₃ R₃ X₃ => ?_
    obtain ⟨nm, q, N, bs, sln, sub, ab, col, dd, c0, c1, c2, c3, c5, hC⟩ := cls45
    have RM := R₃.marked (.ref e)
    refine wpAny_handleBy_cons (codeAny_handlers_test ?_) (by intro q; cases q)
    refine eval_gname (f := markFx f (.ref e)) RM.ok RM.stays (by show f.x.sc.names.lookup cls = _; rw [ex]; exact hk) (hg _) ?_ hdb
    obtain ⟨oe, vs, t, d, T, oT, ts, e1, e2, e3, e4, e5, e6, e7, e8, e9, e10, e11, e12, e13⟩ := X₃.here
    refine wpAny_excMatches_sub_self ((R₃.ok.ki.keeps R₃.stays) _ _ (hC _)) e1 e2 (by decide) (codeAny_handlers_suite_as ?_)
    have X₃' : ExcFl (markFx f (.ref e)) ρ₁ j e .none h₃ := ⟨X₃.new, X₃.apart, X₃.here⟩
    refine land_mine RM X₃' fun h₄ R₄ X₄ => ?_
    obtain ⟨oe', vs', t', d', T', oT', ts', f1, f2, f3, f4, f5, f6, _⟩ := X₄.here
    have R₅ : Rel (markFx f (.ref e)) (ρ₁ ++ [e]) ⟨σ₁.loc, σ₁.H ++ [.exc 45 j]⟩ h₄ := by
      obtain ⟨m, objs, fo, W⟩ := R₄
      exact ⟨_, _, _, W.adopt (fun z => X₄.apart (List.mem_cons_of_mem _ z)) (fun z => X₄.apart (z ▸ List.mem_cons_self ..)) X₄.new f1 (x := .exc 45 j) ⟨d', vs', f4, f2, f3, f5⟩⟩
    have gE := R₄.get_new e
    refine wpAny_noRaise ((TStore.loc (x := { x with hx := true }) (E := EN) (n := n) (v := .ref σ₁.H.length) (σ := ⟨σ₁.loc, σ₁.H ++ [.exc 45 j]⟩) (Q := fun σ₂ => TSs { x with hx := true } EN σ₂ (b₀ :: suite) fun fl σ₂ => ∃ loc', (∀ y u, loc'.lookup y = some u → y ≠ n ∧ σ₂.loc.lookup y = some u) ∧ Q fl ⟨loc', σ₂.H⟩) hl q₁ (markFx f (.ref e)) (ρ₁ ++ [e]) (.ref e) (by show ({ f.x with hx := true } : Sx) = _; rw [ex]) ⟨e, gE, rfl⟩) h₄ t₁ R₅ _ _ ?_ EP.never)
    intro _ _ σ₆ ρ₆ h₆ t₆ q₆ k₆ R₆ _
    refine wpAny_noRaise ((q₆ (markFx f (.ref e)) ρ₆ (by show ({ f.x with hx := true } : Sx) = _; rw [ex])) h₆ t₆ R₆ _ _ ?_ EP.never)
    intro fl fl' σ₇ ρ₇ h₇ t₇ q₇ k₇ R₇ r₇
    obtain ⟨loc', hl', q₇⟩ := q₇
    have R₈ := R₇.unmarked ok
    obtain ⟨m, objs, fo, W⟩ := R₈
    refine wpAny_nameGoes_keeps (m := m) (by show f.ev.scope.names.lookup n = _; rw [ok.sc, ex]; exact hl) (by rw [ok.loc]; exact W.fr.ns) (by rw [ok.kind]; rfl) fun h₈ v hns hs => ?_
    rw [ok.loc] at hns hs
    have R₉ : Rel f ρ₇ ⟨loc', σ₇.H⟩ h₈ := by
      refine ⟨_, objs, fo, ok, W.fr.set hns hs, fun y u hy => ?_, W.news.set hs, W.ns, W.obj, W.len, W.nd, W.cells⟩
      obtain ⟨h1, h2⟩ := hl' y u hy
      obtain ⟨w, hw, rw'⟩ := W.loc y u h2
      exact ⟨w, by rw [if_neg h1]; exact hw, rw'⟩
    have kk := (((k₁.trans (List.prefix_append _ _)).trans k₆).trans k₇)
    exact hq fl fl' ⟨loc', σ₇.H⟩ ρ₇ h₈ (t₇ + 1) q₇ kk R₉ (by cases fl <;> exact r₇)
end
end
section
structure Pm where
  base : Int
  least : Int
  most : Int
  skew : Int
  damp : Int
  bias : Int
  first : Int
noncomputable def Pm.fs (w : Pm) : List (PySem.Str × V) := [("base", .int w.base), ("least", .int w.least), ("most", .int w.most), ("skew", .int w.skew), ("damp", .int w.damp), ("bias", .int w.bias), ("first", .int w.first)]
/-- the sizes of the numbers of a Pm that the walk leans on -/
structure Pm.Ok (w : Pm) : Prop where
  b2 : w.base = 36 ∨ w.base = 8
  l1 : 1 ≤ w.least
  lm : w.least ≤ w.most
  m26 : w.most ≤ 26
  mb : w.most + 4 ≤ w.base
  sk : 1 ≤ w.skew ∧ w.skew ≤ 1000
  dm : 1 ≤ w.damp ∧ w.damp ≤ 1000
  fs : w.first = 128 ∨ w.first = 100
noncomputable def Nums (H : List O) (i : Nat) (w : Pm) : Prop := ∃ j, H[i]? = some (.inst 100 j) ∧ H[j]? = some (.dict w.fs)
noncomputable def thr (w : Pm) (k b : Int) : Int := if w.base * k - b < w.least then w.least else if w.base * k - b > w.most then w.most else w.base * k - b


theorem Nums.mono {H : List O} {i : Nat} {w : Pm} (N : Nums H i w) (T : List O) : Nums (H ++ T) i w := by
  obtain ⟨j, h1, h2⟩ := N
  have g : ∀ {k : Nat} {o : O}, H[k]? = some o → (H ++ T)[k]? = some o := fun e => by
    rw [List.getElem?_append_left (List.getElem?_eq_some_iff.mp e).1]; exact e
  exact ⟨j, g h1, g h2⟩
section
variable {x : Sx} {E : Nat → St → Prop} {σ : St}
theorem TGet.n_base {i : Nat} {w : Pm} {Q : V → St → Prop} (N : Nums σ.H i w) (h : Q (.int w.base) σ) : TGet x E "base" (.ref i) σ Q := by
  obtain ⟨j, h1, h2⟩ := N
  exact TGet.field (v := .int w.base) (at_ := Option.none) h1 h2 rfl h (by intro P; k_is) (by intro P; k_is) (by intro P; k_is) (by intro P; rfl)
theorem TGet.n_least {i : Nat} {w : Pm} {Q : V → St → Prop} (N : Nums σ.H i w) (h : Q (.int w.least) σ) : TGet x E "least" (.ref i) σ Q := by
  obtain ⟨j, h1, h2⟩ := N
  exact TGet.field (v := .int w.least) (at_ := Option.none) h1 h2 rfl h (by intro P; k_is) (by intro P; k_is) (by intro P; k_is) (by intro P; rfl)
theorem TGet.n_most {i : Nat} {w : Pm} {Q : V → St → Prop} (N : Nums σ.H i w) (h : Q (.int w.most) σ) : TGet x E "most" (.ref i) σ Q := by
  obtain ⟨j, h1, h2⟩ := N
  exact TGet.field (v := .int w.most) (at_ := Option.none) h1 h2 rfl h (by intro P; k_is) (by intro P; k_is) (by intro P; k_is) (by intro P; rfl)
theorem TGet.n_skew {i : Nat} {w : Pm} {Q : V → St → Prop} (N : Nums σ.H i w) (h : Q (.int w.skew) σ) : TGet x E "skew" (.ref i) σ Q := by
  obtain ⟨j, h1, h2⟩ := N
  exact TGet.field (v := .int w.skew) (at_ := Option.none) h1 h2 rfl h (by intro P; k_is) (by intro P; k_is) (by intro P; k_is) (by intro P; rfl)
theorem TGet.n_damp {i : Nat} {w : Pm} {Q : V → St → Prop} (N : Nums σ.H i w) (h : Q (.int w.damp) σ) : TGet x E "damp" (.ref i) σ Q := by
  obtain ⟨j, h1, h2⟩ := N
  exact TGet.field (v := .int w.damp) (at_ := Option.none) h1 h2 rfl h (by intro P; k_is) (by intro P; k_is) (by intro P; k_is) (by intro P; rfl)
theorem TGet.n_bias {i : Nat} {w : Pm} {Q : V → St → Prop} (N : Nums σ.H i w) (h : Q (.int w.bias) σ) : TGet x E "bias" (.ref i) σ Q := by
  obtain ⟨j, h1, h2⟩ := N
  exact TGet.field (v := .int w.bias) (at_ := Option.none) h1 h2 rfl h (by intro P; k_is) (by intro P; k_is) (by intro P; k_is) (by intro P; rfl)
theorem TGet.n_first {i : Nat} {w : Pm} {Q : V → St → Prop} (N : Nums σ.H i w) (h : Q (.int w.first) σ) : TGet x E "first" (.ref i) σ Q := by
  obtain ⟨j, h1, h2⟩ := N
  exact TGet.field (v := .int w.first) (at_ := Option.none) h1 h2 rfl h (by intro P; k_is) (by intro P; k_is) (by intro P; k_is) (by intro P; rfl)
end
theorem ifd {p : Prop} {_ : Decidable p} {A B : Prop} (h : p → A) (h' : ¬ p → B) : (if decide p = true then A else B) := by
  by_cases z : p
  · rw [if_pos (by simpa using z)]; exact h z
  · rw [if_neg (by simpa using z)]; exact h' z
theorem ifn {p : Prop} {_ : Decidable p} {A B : Prop} (h : ¬ p → A) (h' : p → B) : (if (!decide p) = true then A else B) := by
  by_cases z : p
  · rw [if_neg (by simpa using z)]; exact h' z
  · rw [if_pos (by simpa using z)]; exact h z
theorem ift {A B : Prop} (h : A) : (if true = true then A else B) := h
theorem iff' {A B : Prop} (h : B) : (if false = true then A else B) := h
theorem Binds.oneD {a : FuncData} {u u' : V} {n n' : PySem.Str} {c : Value} (h : ∀ P (s : Shared) v, (hd.heap_39 P).In s.heap → BindsTo s a ⟨[v], []⟩ [(n, v), (n', c)]) (hc : ∀ B ρ, Rv B ρ u' c) : Binds a [u] [(n, u), (n', u')] := fun f ρ vs r => by
  cases r with
  | cons r t => cases t; exact ⟨_, fun s X => h _ s _ X, .cons ⟨rfl, r⟩ (.cons ⟨rfl, hc _ _⟩ .nil)⟩
theorem Binds.oneDD {a : FuncData} {u u' u'' : V} {n n' n'' : PySem.Str} {c c' : Value} (h : ∀ P (s : Shared) v, (hd.heap_39 P).In s.heap → BindsTo s a ⟨[v], []⟩ [(n, v), (n', c), (n'', c')]) (hc : ∀ B ρ, Rv B ρ u' c) (hc' : ∀ B ρ, Rv B ρ u'' c') : Binds a [u] [(n, u), (n', u'), (n'', u'')] := fun f ρ vs r => by
  cases r with
  | cons r t => cases t; exact ⟨_, fun s X => h _ s _ X, .cons ⟨rfl, r⟩ (.cons ⟨rfl, hc _ _⟩ (.cons ⟨rfl, hc' _ _⟩ .nil))⟩
theorem Binds.twoD {a : FuncData} {u v u' : V} {n m n' : PySem.Str} {c : Value} (h : ∀ P (s : Shared) v v', (hd.heap_39 P).In s.heap → BindsTo s a ⟨[v, v'], []⟩ [(n, v), (m, v'), (n', c)]) (hc : ∀ B ρ, Rv B ρ u' c) : Binds a [u, v] [(n, u), (m, v), (n', u')] := fun f ρ vs r => by
  cases r with
  | cons r t => cases t with
    | cons r2 t => cases t; exact ⟨_, fun s X => h _ s _ _ X, .cons ⟨rfl, r⟩ (.cons ⟨rfl, r2⟩ (.cons ⟨rfl, hc _ _⟩ .nil))⟩
theorem Binds.twoK {a : FuncData} {u v : V} {n m : PySem.Str} (h : ∀ P (s : Shared) v v', (hd.heap_39 P).In s.heap → BindsTo s a ⟨[v, v'], []⟩ [(n, v), (m, v')]) : Binds a [u, v] [(n, u), (m, v)] := fun f ρ vs r => by
  cases r with
  | cons r t => cases t with
    | cons r2 t => cases t; exact ⟨_, fun s X => h _ s _ _ X, .cons ⟨rfl, r⟩ (.cons ⟨rfl, r2⟩ .nil)⟩
theorem Binds.fourK {a : FuncData} {u u' u'' u3 : V} {n n' n'' n3 : PySem.Str} (h : ∀ P (s : Shared) v v' v'' v3, (hd.heap_39 P).In s.heap → BindsTo s a ⟨[v, v', v'', v3], []⟩ [(n, v), (n', v'), (n'', v''), (n3, v3)]) : Binds a [u, u', u'', u3] [(n, u), (n', u'), (n'', u''), (n3, u3)] := fun f ρ vs r => by
  cases r with
  | cons r t => cases t with
    | cons r' t => cases t with
      | cons r'' t => cases t with
        | cons r3 t => cases t; exact ⟨_, fun s X => h _ s _ _ _ _ X, .cons ⟨rfl, r⟩ (.cons ⟨rfl, r'⟩ (.cons ⟨rfl, r''⟩ (.cons ⟨rfl, r3⟩ .nil)))⟩
end
local macro_rules | `(tactic| k_caughtN0) => `(tactic| first | assumption | (simp only [Nums.mono, *]; done))
local macro_rules | `(tactic| k_caught0) => `(tactic| (refine' TC.plain ?ho ?hcd ?hb ?hl ?hc ?_ (fun _ _ _ _ _ _ _ e => by subst e; exact leaves_to rfl rfl rfl rfl rfl) ?h1 ?h2 ?h3; (case ho => intro P; k_is); (case hcd => intro P; k_is); (case hb => first | exact Binds.one fun _ => rfl | exact Binds.two fun _ _ => rfl | exact Binds.three fun _ _ _ => rfl | exact Binds.four fun _ _ _ _ => rfl); (case hl => rfl); (case hc => rfl); (case h1 => rfl); (case h2 => rfl); (case h3 => rfl); (change TSs ⟨⟨_, _, _, _, _⟩, _, _, _, _⟩ _ _ (_ :: _) _)))
local macro_rules | `(tactic| k_caughtB) => `(tactic| first
  | (with_reducible first
    | refine TSs.cons ?_
    | refine TSs.nil ?_
    | refine TE.int ?_
    | refine TE.none ?_
    | refine TE.str ?_
    | refine TS.ret ?_
    | refine TS.if_ ?_
    | refine TE.ifexp ?_
    | refine TB.name ?_
    | refine TE.binop ?_
    | refine TE.attr ?_
    | refine Op2.add ?_
    | refine Op2.sub ?_
    | refine Op2.lt ?_
    | refine Op2.le ?_
    | refine Op2.gt ?_
    | refine Op2.ge ?_
    | refine Op2.eq ?_
    | refine Op2.is_none ?_
    | refine Truth.bool ?_
    | refine ifd (fun _ => ?_) (fun _ => ?_)
    | refine ift ?_
    | refine iff' ?_
    | refine TAsg.name ?_
    | refine CallB.lenB ?_
    | refine TA.nil ?_
    | refine TE.list ?_
    | refine TE.tuple ?_
    | refine TAsgs.nil ?_
    | refine TE.sub ?_)
  | ((with_reducible refine' TE.loc ?k0 ?k1 ?_ ?k3); (case k0 => rfl); (case k1 => rfl); (case k3 => rfl))
  | ((with_reducible refine' TE.gint ?k0 ?k1 ?_ ?k3); (case k0 => rfl); (case k1 => intro P; k_is); (case k3 => rfl))
  | ((with_reducible refine' TE.cell ?k0 ?k1 ?k2 ?_ ?k4); (case k0 => rfl); (case k1 => rfl); (case k2 => k_caughtN0); (case k4 => rfl))
  | ((with_reducible refine' TE.cmp ?_ ?k1); (case k1 => rfl))
  | ((with_reducible refine' TB.cmp ?_ ?k1); (case k1 => rfl))
  | ((with_reducible refine' Op2.mulL ?k0 ?k1 ?_); (case k0 => (first | lia | omega)); (case k1 => (first | lia | omega)))
  | ((with_reducible refine' Op2.mulR ?k0 ?k1 ?_); (case k0 => (first | lia | omega)); (case k1 => (first | lia | omega)))
  | ((with_reducible refine' Op2.div ?k0 ?k1 ?_); (case k0 => (first | lia | omega)); (case k1 => (first | lia | omega)))
  | ((with_reducible refine' Op2.mod ?k0 ?_); (case k0 => (first | lia | omega)))
  | ((with_reducible refine' TS.asg ?_ ?k1 ?k2 ?k3); (case k1 => intro _ _; rfl); (case k2 => intro _ _; rfl); (case k3 => intro _; rfl))
  | ((with_reducible refine' TStore.loc ?k0 ?_); (case k0 => rfl))
  | ((with_reducible refine' TE.call ?k0 ?k1 ?k2 ?_ ?k4 ?k5 ?k6); (case k0 => rfl); (case k1 => intro P; k_is); (case k2 => intro P; k_is); (case k4 => intro _; rfl); (case k5 => intro _ _; rfl); (case k6 => rfl))
  | ((with_reducible refine' TE.callB ?k0 ?k1 ?k2 ?k3 ?_ ?k5 ?k6 ?k7); (case k0 => rfl); (case k1 => intro P; k_is); (case k2 => rfl); (case k3 => decide); (case k5 => intro _; rfl); (case k6 => intro _ _; rfl); (case k7 => rfl))
  | ((with_reducible refine' TE.callT ?k0 ?k1 ?k2 ?k3 ?_ ?k5 ?k6 ?k7); (case k0 => rfl); (case k1 => intro P; k_is); (case k2 => rfl); (case k3 => decide); (case k5 => intro _; rfl); (case k6 => intro _ _; rfl); (case k7 => rfl))
  | ((with_reducible refine' CallB.len ?k0 ?_); (case k0 => k_caughtN0))
  | ((with_reducible refine' TA.cons ?_ ?k1); (case k1 => intro _; rfl))
  | ((with_reducible refine' TS.expr ?_ ?k1 ?k2); (case k1 => intro _ _; rfl); (case k2 => intro env e kk; cases env; dsimp only at e; subst e; rfl))
  | ((with_reducible refine' TAsgs.cons ?_ ?k1); (case k1 => intro _; rfl))
  )
section
theorem thr_call {d : Nat} {E} {i : Nat} {w : Pm} {k b : Int} {H : List O} {Q : V → List O → Prop} (N : Nums H i w) (ok : w.Ok) (h : Q (.int (thr w k b)) H) : TC d E 90 [.ref i, .int k, .int b] H Q := by
  have := ok.b2
  unfold thr at h
  k_caught0
  repeat' (first | ((with_reducible refine' TGet.n_base ?k0 ?_); (case k0 => k_caughtN0)) | ((with_reducible refine' TGet.n_least ?k0 ?_); (case k0 => k_caughtN0)) | ((with_reducible refine' TGet.n_most ?k0 ?_); (case k0 => k_caughtN0)) | k_caughtB)
  · rw [if_pos (by assumption)] at h; exact h
  · rw [if_neg (by assumption), if_pos (by assumption)] at h; exact h
  · rw [if_neg (by assumption), if_neg (by assumption)] at h; exact h
noncomputable def dg (v : Int) : Int := if v ≥ 26 then 48 + v - 26 else 97 + v
theorem figure_call2 {d : Nat} {E} {v : Int} {H : List O} {Q : V → List O → Prop} (h : Q (.int (dg v)) H) : TC d E 112 [.int v, .bool false] H Q := by
  unfold dg at h
  (refine' TC.plain ?ho ?hcd ?hb ?hl ?hc ?_ (fun _ _ _ _ _ _ _ e => by subst e; exact leaves_to rfl rfl rfl rfl rfl) ?h1 ?h2 ?h3; (case ho => intro P; k_is); (case hcd => intro P; k_is); (case hb => exact Binds.twoK (fun P s v v' X => binds_K X rfl (by k_is) rfl rfl rfl)); (case hl => rfl); (case hc => rfl); (case h1 => rfl); (case h2 => rfl); (case h3 => rfl); (change TSs ⟨⟨_, _, _, _, _⟩, _, _, _, _⟩ _ _ (_ :: _) _))
  repeat' k_caughtB
  · rw [if_pos (by assumption)] at h; exact h
  · rw [if_neg (by assumption)] at h; exact h
theorem figure_call1 {d : Nat} {E} {v : Int} {H : List O} {Q : V → List O → Prop} (h : Q (.int (dg v)) H) : TC d E 112 [.int v] H Q := by
  unfold dg at h
  (refine' TC.plain ?ho ?hcd ?hb ?hl ?hc ?_ (fun _ _ _ _ _ _ _ e => by subst e; exact leaves_to rfl rfl rfl rfl rfl) ?h1 ?h2 ?h3; (case ho => intro P; k_is); (case hcd => intro P; k_is); (case hb => exact Binds.oneD (u' := .bool false) (fun P s v X => binds_K X rfl (by k_is) rfl rfl rfl) (fun _ _ => rfl)); (case hl => rfl); (case hc => rfl); (case h1 => rfl); (case h2 => rfl); (case h3 => rfl); (change TSs ⟨⟨_, _, _, _, _⟩, _, _, _, _⟩ _ _ (_ :: _) _))
  repeat' k_caughtB
  · rw [if_pos (by assumption)] at h; exact h
  · rw [if_neg (by assumption)] at h; exact h
noncomputable def vl (o : Int) : V := if 97 ≤ o ∧ o < 123 then .int (o - 97) else if 65 ≤ o ∧ o < 91 then .int (o - 65) else if 48 ≤ o ∧ o < 58 then .int (o - 48 + 26) else .none
theorem value_call {d : Nat} {E} {o : Int} {H : List O} {Q : V → List O → Prop} (h : Q (vl o) H) : TC d E 119 [.int o] H Q := by
  unfold vl at h
  k_caught0
  repeat' (first | ((with_reducible refine' TB.cmp2 ?_ ?k1); (case k1 => rfl)) | k_caughtB)
  all_goals (show Q _ _)
  all_goals (repeat' split at h)
  all_goals (first | exact h | (exfalso; (first | lia | omega)))

theorem is_code_call {d : Nat} {E} {i : Int} {H : List O} {Q : V → List O → Prop} (h : Q (.bool (decide (0 ≤ i ∧ i ≤ 1114111))) H) : TC d E 54 [.int i] H Q := by
  k_caught0
  repeat' (first | ((with_reducible refine' TE.cmp2 ?_ ?k1); (case k1 => rfl)) | k_caughtB)
  · rename_i c
    rw [show decide (0 ≤ i ∧ i ≤ 1114111) = decide (i ≤ 1114111) from by simp [c]] at h
    exact h
  · rename_i c
    rw [show decide (0 ≤ i ∧ i ≤ 1114111) = decide (0 ≤ i) from by simp [c]] at h
    exact h
theorem is_surr_call {d : Nat} {E} {i : Int} {H : List O} {Q : V → List O → Prop} (h : Q (.bool (decide (55296 ≤ i ∧ i ≤ 57343))) H) : TC d E 61 [.int i] H Q := by
  k_caught0
  repeat' (first | ((with_reducible refine' TE.cmp2 ?_ ?k1); (case k1 => rfl)) | k_caughtB)
  · rename_i c
    rw [show decide (55296 ≤ i ∧ i ≤ 57343) = decide (i ≤ 57343) from by simp [c]] at h
    exact h
  · rename_i c
    rw [show decide (55296 ≤ i ∧ i ≤ 57343) = decide (55296 ≤ i) from by simp [c]] at h
    exact h
theorem capital_call {d : Nat} {E} {i : Int} {H : List O} {Q : V → List O → Prop} (h : ∀ b : Bool, Q (.bool b) H) : TC d E 182 [.int i] H Q := by
  k_caught0
  repeat' (first | ((with_reducible refine' TE.cmp2 ?_ ?k1); (case k1 => rfl)) | k_caughtB)
  all_goals exact h _
theorem basic_call {d : Nat} {E} {c : Int} {i : Nat} {w : Pm} {H : List O} {Q : V → List O → Prop} (N : Nums H i w) (h : Q (.bool (decide (c < w.first))) H) : TC d E 141 [.int c, .ref i] H Q := by
  k_caught0
  repeat' (first | ((with_reducible refine' TGet.n_first ?k0 ?_); (case k0 => k_caughtN0)) | k_caughtB)
  exact h
end
section
theorem and1 {A : Prop} {B : Prop} (a : A) (b : B) : A ∧ B := ⟨a, b⟩
noncomputable def Has (l ps : List (PySem.Str × V)) : Prop := ∀ y u, ps.lookup y = some u → l.lookup y = some u
theorem Has.nil {l : List (PySem.Str × V)} : Has l [] := fun _ _ e => by cases e
theorem Has.cons {l ps : List (PySem.Str × V)} {n : PySem.Str} {v : V} (h : Has l ps) (e : l.lookup n = some v) : Has l ((n, v) :: ps) := fun y u z => by
  rw [List.lookup_cons] at z
  cases q : y == n with
  | true =>
    rw [q] at z
    cases z
    have : y = n := by simpa using q
    subst this
    exact e
  | false => rw [q] at z; exact h y u z
section
variable {x : Sx} {E : Nat → St → Prop} {σ : St}
theorem TB.forget {e : Expr} {Q : Bool → St → Prop} {loc loc' : List (PySem.Str × V)} {H : List O} (k : Has loc loc') (h : TB x E ⟨loc', H⟩ e Q) : TB x E ⟨loc, H⟩ e Q := fun f ρ ex hh tk R => (h f ρ ex) hh tk (R.forget k)
theorem TSs.forg {e : List Stmt} {Q : Fl → St → Prop} {loc loc' : List (PySem.Str × V)} {H : List O} (k : Has loc loc') (h : TSs x E ⟨loc', H⟩ e Q) : TSs x E ⟨loc, H⟩ e Q := fun f ρ ex hh tk R => (h f ρ ex) hh tk (R.forget k)
theorem TSs.heap {e : List Stmt} {Q : Fl → St → Prop} {loc : List (PySem.Str × V)} {H H' : List O} (k : H = H') (h : TSs x E ⟨loc, H'⟩ e Q) : TSs x E ⟨loc, H⟩ e Q := by subst k; exact h
theorem set_at {α : Type} (H : List α) (a b : α) (T : List α) : (H ++ a :: T).set H.length b = H ++ b :: T := by simp
theorem get_at {α : Type} (H : List α) (a : α) (T : List α) : (H ++ a :: T)[H.length]? = some a := by simp
theorem get_at1 {α : Type} (H : List α) (a b : α) (T : List α) : (H ++ a :: b :: T)[H.length + 1]? = some b := by simp
theorem get_left {α : Type} {H : List α} {i : Nat} {a : α} (e : H[i]? = some a) (T : List α) : (H ++ T)[i]? = some a := by
  rw [List.getElem?_append_left (List.getElem?_eq_some_iff.mp e).1]; exact e

noncomputable abbrev MethEq (o : Expr) (name : PySem.Str) (ap pos : Pos) (es : List Expr) : Prop := ∀ env, eval (.Call (.Attribute o name ap) es [] pos) env = (do
      let ov ← eval o env
      PySem.standAt ap.atName
      let (f, first) ← PySem.holding [ov] (getMethod ov name (do return (← importBound o env).getD true))
      callWith pos f first (backTo pos (starEach es env)) (backToKw pos (keywordEach [] env)))
/-- found.append(e), found a local name -/
theorem TE.mapp {n : PySem.Str} {np ap pos : Pos} {e : Expr} {i : Nat} {Q : V → St → Prop} (hk : x.sc.names.lookup n = some .local) (hv : σ.loc.lookup n = some (.ref i)) (hi : ∃ vs, σ.H[i]? = some (.list vs))
    (h : TE x E σ e fun v σ₁ => ∃ ws, σ₁.H[i]? = some (.list ws) ∧ ws.length < 2 ^ 20 ∧ Q .none ⟨σ₁.loc, σ₁.H.set i (.list (ws ++ [v]))⟩)
    (he : ∀ env, starEach [e] env = [(false, eval e env)]) (hm : MethEq (.Name n np) "append" ap pos [e]) (hdb : (n == ("__debug__" : PySem.Str)) = false) : TE x E σ (.Call (.Attribute (.Name n np) "append" ap) [e] [] pos) Q := by
  obtain ⟨vs, hi⟩ := hi
  refine TE.methB PySem.F.slot_list_append PySem.F.type_list_append (TE.loc hk hv ?_ hdb) he (fun _ _ => rfl) hm
  simp only [hi]
  refine TA.cons (h.mono fun v σ₁ ⟨ws, g1, g2, q⟩ => TA.nil (CallB.append g1 g2 q)) he
theorem TE.mext {n : PySem.Str} {np ap pos : Pos} {e : Expr} {i : Nat} {Q : V → St → Prop} (hk : x.sc.names.lookup n = some .local) (hv : σ.loc.lookup n = some (.ref i)) (hi : ∃ vs, σ.H[i]? = some (.list vs))
    (h : TE x E σ e fun v σ₁ => ∃ j ws us, v = .ref j ∧ σ₁.H[i]? = some (.list ws) ∧ σ₁.H[j]? = some (.list us) ∧ us ≠ [] ∧ ws.length + us.length ≤ 2 ^ 20 ∧ Q .none ⟨σ₁.loc, σ₁.H.set i (.list (ws ++ us))⟩)
    (he : ∀ env, starEach [e] env = [(false, eval e env)]) (hm : MethEq (.Name n np) "extend" ap pos [e]) (hdb : (n == ("__debug__" : PySem.Str)) = false) : TE x E σ (.Call (.Attribute (.Name n np) "extend" ap) [e] [] pos) Q := by
  obtain ⟨vs, hi⟩ := hi
  refine TE.methB PySem.F.slot_list_extend PySem.F.type_list_extend (TE.loc hk hv ?_ hdb) he (fun _ _ => rfl) hm
  simp only [hi]
  refine TA.cons (h.mono fun v σ₁ ⟨j, ws, us, ev, g1, g2, g3, g4, q⟩ => TA.nil (by subst ev; exact CallB.extend g1 g2 g3 g4 q)) he
theorem TS.asgS2 {a b : PySem.Str} {p1 p2 tp vp p : Pos} {e1 e2 : Expr} {k k' : Nat} {Q : Fl → St → Prop} (h : TE x E σ e1 fun u σ₁ => TE x E σ₁ e2 fun v σ₂ => TStore x E b v σ₂ fun σ₃ => TStore x E a u σ₃ fun σ₄ => Q .next σ₄)
    (he : ∀ env, starEach [e1, e2] env = [(false, eval e1 env), (false, eval e2 env)]) (he2 : ∀ env, starEach [e2] env = [(false, eval e2 env)]) (hs : ∀ env : Env, env.scope = x.sc → swapsWithSole [.Tuple [.Name a p1, .Name b p2] k tp] (.Tuple [e1, e2] k' vp) p.line env = pure false)
    (hw : ∀ env : Env, env.scope = x.sc → swappedStores [.Tuple [.Name a p1, .Name b p2] k tp] (.Tuple [e1, e2] k' vp) env = pure (some [a, b])) (hh0 : x.hx = false) : TS x E σ (.Assign [.Tuple [.Name a p1, .Name b p2] k tp] (.Tuple [e1, e2] k' vp) p) Q := by
  refine TS.asgS (names := [a, b]) (TA.cons (h.mono fun u σ₁ h => TA.cons (h.mono fun v σ₂ h => TA.nil ⟨rfl, TNames.cons ?_⟩) he2) (fun env => by rw [he, he2])) hs hw (by simp) hh0
  exact fun f ρ va e r => (h f ρ va e r).mono fun _ σ₃ h => TNames.cons fun f ρ va e r => (h f ρ va e r).mono fun _ σ₄ h => TNames.nil h
theorem TS.asgS3 {a b c : PySem.Str} {p1 p2 p3 tp vp p : Pos} {e1 e2 e3 : Expr} {k k' : Nat} {Q : Fl → St → Prop} (h : TE x E σ e1 fun u σ₁ => TE x E σ₁ e2 fun v σ₂ => TE x E σ₂ e3 fun z σ₃ => TStore x E c z σ₃ fun σ₄ => TStore x E b v σ₄ fun σ₅ => TStore x E a u σ₅ fun σ₆ => Q .next σ₆)
    (he : ∀ env, starEach [e1, e2, e3] env = [(false, eval e1 env), (false, eval e2 env), (false, eval e3 env)]) (he2 : ∀ env, starEach [e2, e3] env = [(false, eval e2 env), (false, eval e3 env)]) (he3 : ∀ env, starEach [e3] env = [(false, eval e3 env)]) (hs : ∀ env : Env, env.scope = x.sc → swapsWithSole [.Tuple [.Name a p1, .Name b p2, .Name c p3] k tp] (.Tuple [e1, e2, e3] k' vp) p.line env = pure false)
    (hw : ∀ env : Env, env.scope = x.sc → swappedStores [.Tuple [.Name a p1, .Name b p2, .Name c p3] k tp] (.Tuple [e1, e2, e3] k' vp) env = pure (some [a, b, c])) (hh0 : x.hx = false) : TS x E σ (.Assign [.Tuple [.Name a p1, .Name b p2, .Name c p3] k tp] (.Tuple [e1, e2, e3] k' vp) p) Q := by
  refine TS.asgS (names := [a, b, c]) (TA.cons (h.mono fun u σ₁ h => TA.cons (h.mono fun v σ₂ h => TA.cons (h.mono fun z σ₃ h => TA.nil ⟨rfl, TNames.cons ?_⟩) he3) (fun env => by rw [he2, he3])) (fun env => by rw [he, he2])) hs hw (by simp) hh0
  exact fun f ρ va e r => (h f ρ va e r).mono fun _ σ₃ h => TNames.cons fun f ρ va e r => (h f ρ va e r).mono fun _ σ₄ h => TNames.cons fun f ρ va e r => (h f ρ va e r).mono fun _ σ₄ h => TNames.nil h
end
section
variable {x : Sx} {E : Nat → St → Prop} {σ : St}
/-- numbers.threshold(..), numbers.adapted(..) -/
theorem TE.m_threshold {n : PySem.Str} {np ap pos : Pos} {e : Expr} {r : List Expr} {i : Nat} {w : Pm} {Q : V → St → Prop} (hk : x.sc.names.lookup n = some .local) (hv : σ.loc.lookup n = some (.ref i)) (N : Nums σ.H i w)
    (h : TA x E σ (e :: r) fun vs σ₁ => CallF x E 90 (.ref i :: vs) σ₁ Q) (he : ∀ env, starEach (e :: r) env = (false, eval e env) :: starEach r env) (hplain : ∀ env pos, (backTo pos (starEach r env)).any (·.1) = false)
    (hm : MethEq (.Name n np) "threshold" ap pos (e :: r)) (hdb : (n == ("__debug__" : PySem.Str)) = false) : TE x E σ (.Call (.Attribute (.Name n np) "threshold" ap) (e :: r) [] pos) Q := by
  obtain ⟨j, n1, n2⟩ := N
  exact TE.meth (TE.loc hk hv ⟨rfl, rfl⟩ hdb) n1 n2 rfl (by intro P; k_is) (by intro P; k_is) (by intro P; k_is) (by intro P; k_is) h he hplain hm
theorem TE.m_adapted {n : PySem.Str} {np ap pos : Pos} {e : Expr} {r : List Expr} {i : Nat} {w : Pm} {Q : V → St → Prop} (hk : x.sc.names.lookup n = some .local) (hv : σ.loc.lookup n = some (.ref i)) (N : Nums σ.H i w)
    (h : TA x E σ (e :: r) fun vs σ₁ => CallF x E 97 (.ref i :: vs) σ₁ Q) (he : ∀ env, starEach (e :: r) env = (false, eval e env) :: starEach r env) (hplain : ∀ env pos, (backTo pos (starEach r env)).any (·.1) = false)
    (hm : MethEq (.Name n np) "adapted" ap pos (e :: r)) (hdb : (n == ("__debug__" : PySem.Str)) = false) : TE x E σ (.Call (.Attribute (.Name n np) "adapted" ap) (e :: r) [] pos) Q := by
  obtain ⟨j, n1, n2⟩ := N
  exact TE.meth (TE.loc hk hv ⟨rfl, rfl⟩ hdb) n1 n2 rfl (by intro P; k_is) (by intro P; k_is) (by intro P; k_is) (by intro P; k_is) h he hplain hm
/-- w['name'], w a map of the numbers -/
theorem TItem.num {value slice : Expr} {i : Nat} {n : PySem.Str} {w : Pm} {v : V} {Q : V → St → Prop} (hi : σ.H[i]? = some (.map w.fs)) (hv : w.fs.lookup n = some v) (h : Q v σ)
    (hs : ∀ a t, subscripted slice false (.ref a) (.str n t) = operate [.ref a, .str n t] (getItem (.ref a) (.str n t))) : TItem x E value slice (.ref i) (.str n) σ Q := TItem.map hi hv h hs
end

/- the turns of adapted -/
noncomputable def spin (w : Pm) : Nat → Int → Int → Int × Int
  | 0, d, c => (d, c)
  | n + 1, d, c => if d > (w.base - w.least) * w.most / 2 then spin w n (d / (w.base - w.least)) (c + 1) else (d, c)
theorem Pm.Ok.span {w : Pm} (ok : w.Ok) : 2 ≤ w.base - w.least ∧ w.base - w.least < 36 ∧ 0 ≤ (w.base - w.least) * w.most / 2 ∧ (w.base - w.least) * w.most / 2 < 1000 := by
  obtain ⟨b2, l1, lm, m26, mb, sk, dm, fs⟩ := ok
  have h1 : 2 ≤ w.base - w.least := by (first | lia | omega)
  have h2 : w.base - w.least < 36 := by (first | lia | omega)
  have h3 : 0 ≤ (w.base - w.least) * w.most := Int.mul_nonneg (by (first | lia | omega)) (by (first | lia | omega))
  have h4 : (w.base - w.least) * w.most ≤ 36 * 36 := Int.mul_le_mul (by (first | lia | omega)) (by (first | lia | omega)) (by (first | lia | omega)) (by (first | lia | omega))
  (first | lia | omega)
theorem spin_more {w : Pm} (ok : w.Ok) : ∀ (n m : Nat) (d c : Int), 0 ≤ d → d.toNat ≤ n → d.toNat ≤ m → spin w n d c = spin w m d c
  | 0, m, d, c, h0, h1, h2 => by
    have : d = 0 := by (first | lia | omega)
    subst this
    have := ok.span
    cases m with
    | zero => rfl
    | succ m => unfold spin; rw [if_neg (by (first | lia | omega))]
  | n + 1, 0, d, c, h0, h1, h2 => by
    have : d = 0 := by (first | lia | omega)
    subst this
    have := ok.span
    unfold spin; rw [if_neg (by (first | lia | omega))]
  | n + 1, m + 1, d, c, h0, h1, h2 => by
    unfold spin
    split
    · have s := ok.span
      have hd : d / (w.base - w.least) < d := Int.ediv_lt_self_of_pos_of_ne_one (by (first | lia | omega)) (by (first | lia | omega))
      have hn : 0 ≤ d / (w.base - w.least) := Int.ediv_nonneg h0 (by (first | lia | omega))
      exact spin_more ok n m _ _ hn (by (first | lia | omega)) (by (first | lia | omega))
    · rfl
theorem spin_step {w : Pm} (ok : w.Ok) {d c : Int} (h0 : 0 ≤ d) (h : d > (w.base - w.least) * w.most / 2) :
    0 ≤ d / (w.base - w.least) ∧ (d / (w.base - w.least)).toNat < d.toNat ∧ spin w d.toNat d c = spin w (d / (w.base - w.least)).toNat (d / (w.base - w.least)) (c + 1) := by
  have s := ok.span
  have hd : d / (w.base - w.least) < d := Int.ediv_lt_self_of_pos_of_ne_one (by (first | lia | omega)) (by (first | lia | omega))
  have hn : 0 ≤ d / (w.base - w.least) := Int.ediv_nonneg h0 (by (first | lia | omega))
  refine ⟨hn, by (first | lia | omega), ?_⟩
  obtain ⟨n, e⟩ : ∃ n, d.toNat = n + 1 := ⟨d.toNat - 1, by (first | lia | omega)⟩
  rw [e, spin, if_pos h]
  exact spin_more ok _ _ _ _ hn (by (first | lia | omega)) (Nat.le_refl _)
noncomputable def ad (w : Pm) (delta many : Int) (first : Bool) : Int :=
  let d0 := if first then delta / w.damp else delta / 2
  let d1 := d0 + d0 / many
  let r := spin w d1.toNat d1 0
  w.base * r.2 + (w.base - w.least + 1) * r.1 / (r.1 + w.skew)

/- the digits of a number -/
noncomputable def num (w : Pm) (b : Int) : Nat → Int → Int → List Int
  | 0, _, q => [dg q]
  | n + 1, k, q => if q < thr w k b then [dg q] else dg (thr w k b + (q - thr w k b) % (w.base - thr w k b)) :: num w b n (k + 1) ((q - thr w k b) / (w.base - thr w k b))
theorem thr_bounds {w : Pm} (ok : w.Ok) (k b : Int) : 1 ≤ thr w k b ∧ thr w k b ≤ 26 ∧ 4 ≤ w.base - thr w k b ∧ w.base - thr w k b < 36 ∧ w.least ≤ thr w k b ∧ thr w k b ≤ w.most := by
  obtain ⟨b2, l1, lm, m26, mb, sk, dm, fs⟩ := ok
  unfold thr
  split
  · (first | lia | omega)
  · split <;> (first | lia | omega)
theorem num_next {w : Pm} (ok : w.Ok) {k b q : Int} (h : ¬ q < thr w k b) : 0 ≤ (q - thr w k b) / (w.base - thr w k b) ∧ (q - thr w k b) / (w.base - thr w k b) * 4 < q := by
  have s := thr_bounds ok k b
  have hn : 0 ≤ (q - thr w k b) / (w.base - thr w k b) := Int.ediv_nonneg (by (first | lia | omega)) (by (first | lia | omega))
  have h1 : (w.base - thr w k b) * ((q - thr w k b) / (w.base - thr w k b)) ≤ q - thr w k b := Int.mul_ediv_self_le (by (first | lia | omega))
  have h2 : 4 * ((q - thr w k b) / (w.base - thr w k b)) ≤ (w.base - thr w k b) * ((q - thr w k b) / (w.base - thr w k b)) := Int.mul_le_mul_of_nonneg_right (by (first | lia | omega)) hn
  exact ⟨hn, by (first | lia | omega)⟩
theorem num_more {w : Pm} (ok : w.Ok) {b : Int} : ∀ (n m : Nat) (k q : Int), 0 ≤ q → q.toNat ≤ n → q.toNat ≤ m → num w b n k q = num w b m k q
  | 0, m, k, q, h0, h1, h2 => by
    have : q = 0 := by (first | lia | omega)
    subst this
    have := thr_bounds ok k b
    cases m with
    | zero => rfl
    | succ m => unfold num; rw [if_pos (by (first | lia | omega))]
  | n + 1, 0, k, q, h0, h1, h2 => by
    have : q = 0 := by (first | lia | omega)
    subst this
    have := thr_bounds ok k b
    unfold num; rw [if_pos (by (first | lia | omega))]
  | n + 1, m + 1, k, q, h0, h1, h2 => by
    unfold num
    split
    · rfl
    · rename_i h
      obtain ⟨a1, a2⟩ := num_next ok h
      rw [num_more ok n m _ _ a1 (by (first | lia | omega)) (by (first | lia | omega))]
noncomputable def nums (w : Pm) (b k q : Int) : List Int := num w b q.toNat k q
theorem nums_last {w : Pm} (ok : w.Ok) {b k q : Int} (h : q < thr w k b) : nums w b k q = [dg q] := by
  unfold nums
  cases q.toNat with
  | zero => rfl
  | succ n => unfold num; rw [if_pos h]
theorem nums_next {w : Pm} (ok : w.Ok) {b k q : Int} (h0 : 0 ≤ q) (h : ¬ q < thr w k b) : nums w b k q = dg (thr w k b + (q - thr w k b) % (w.base - thr w k b)) :: nums w b (k + 1) ((q - thr w k b) / (w.base - thr w k b)) := by
  obtain ⟨a1, a2⟩ := num_next ok h
  have s := thr_bounds ok k b
  unfold nums
  obtain ⟨n, e⟩ : ∃ n, q.toNat = n + 1 := ⟨q.toNat - 1, by (first | lia | omega)⟩
  rw [e, num, if_neg h, num_more ok n _ _ _ a1 (by (first | lia | omega)) (Nat.le_refl _)]
theorem dg_bounds {v : Int} (h0 : 0 ≤ v) (h1 : v < 36) : 48 ≤ dg v ∧ dg v < 123 ∧ (dg v < 58 ∨ 97 ≤ dg v) := by
  unfold dg
  split <;> (first | lia | omega)
end
local macro_rules | `(tactic| k_caughtN0) => `(tactic| first | assumption | exact get_at _ _ _ | exact get_at1 _ _ _ _ | exact get_at2 _ _ _ _ _ | exact get_at3 _ _ _ _ _ _ | exact get_at _ _ [] | exact Nums.mono (by assumption) _ | exact get_left (by assumption) _ | exact Nums.mono (Nums.mono (by assumption) _) _ | exact get_left (get_left (by assumption) _) _)
local macro_rules | `(tactic| k_caughtNB) => `(tactic| ((repeat (refine Has.cons ?_ rfl)); exact Has.nil))
local macro_rules | `(tactic| k_caughtB) => `(tactic| first
  | ((with_reducible refine' and1 ?k0 ?_); (case k0 => first | rfl | (simp; done)))
  | ((with_reducible refine' TItem.num ?k0 ?k1 ?_ ?k3); (case k0 => k_caughtN0); (case k1 => rfl); (case k3 => intro _ _; rfl))
  | ((with_reducible refine' TS.asgS2 ?_ ?k1 ?k2 ?k3 ?k4 ?k5); (case k1 => intro _; rfl); (case k2 => intro _; rfl); (case k3 => intro _ _; rfl); (case k4 => intro env e; cases env; dsimp only at e; subst e; rfl); (case k5 => rfl))
  )
section
theorem adapted_call {d : Nat} {E} {i : Nat} {w : Pm} {q m : Int} {b : Bool} {H : List O} {Q : V → List O → Prop} (N : Nums H i w) (ok : w.Ok) (h0 : 0 ≤ q) (m0 : 0 < m ∧ m < 1000) (h : Q (.int (ad w q m b)) H) : TC d E 97 [.ref i, .int q, .int m, .bool b] H Q := by
  have sp := ok.span
  have ok' := ok
  obtain ⟨b2, l1, lm, m26, mb, sk, dm, fs⟩ := ok
  k_caught0
  cases b

  · skip
    have z0 : 0 ≤ q / 2 := Int.ediv_nonneg h0 (by (first | lia | omega))
    have z1 : 0 ≤ q / 2 / m := Int.ediv_nonneg z0 (by (first | lia | omega))
    unfold ad at h
    simp only [Bool.false_eq_true, if_false, if_true] at h
    repeat' (first | ((with_reducible refine' TGet.n_base ?k0 ?_); (case k0 => k_caughtN0)) | ((with_reducible refine' TGet.n_least ?k0 ?_); (case k0 => k_caughtN0)) | ((with_reducible refine' TGet.n_most ?k0 ?_); (case k0 => k_caughtN0)) | ((with_reducible refine' TGet.n_skew ?k0 ?_); (case k0 => k_caughtN0)) | ((with_reducible refine' TGet.n_damp ?k0 ?_); (case k0 => k_caughtN0)) | k_caughtB)
    refine TS.while_ (fun n σ => ∃ dd c, σ.H = H ∧ Has σ.loc [("self", .ref i), ("delta", .int dd), ("many", .int m), ("count", .int c)] ∧ 0 ≤ dd ∧ n = dd.toNat ∧ spin w dd.toNat dd c = spin w (q / 2 + q / 2 / m).toNat (q / 2 + q / 2 / m) 0) (q / 2 + q / 2 / m).toNat ⟨_, _, rfl, by k_caughtNB, by (first | lia | omega), rfl, rfl⟩ ?_
    rintro n ⟨loc, H'⟩ ⟨dd, c, rfl, hl, d0, rfl, e⟩
    refine TB.forget hl ?_
    repeat' (first | ((with_reducible refine' TGet.n_base ?k0 ?_); (case k0 => k_caughtN0)) | ((with_reducible refine' TGet.n_least ?k0 ?_); (case k0 => k_caughtN0)) | ((with_reducible refine' TGet.n_most ?k0 ?_); (case k0 => k_caughtN0)) | ((with_reducible refine' TGet.n_skew ?k0 ?_); (case k0 => k_caughtN0)) | ((with_reducible refine' TGet.n_damp ?k0 ?_); (case k0 => k_caughtN0)) | k_caughtB)
    · rename_i cc
      obtain ⟨s1, s2, s3⟩ := spin_step (c := c) ok' d0 cc
      exact ⟨_, s2, _, _, rfl, by k_caughtNB, s1, rfl, s3 ▸ e⟩
    · rename_i cc
      have e2 : spin w dd.toNat dd c = (dd, c) := by
        cases dd.toNat with
        | zero => rfl
        | succ k => unfold spin; rw [if_neg cc]
      rw [← e, e2] at h
      repeat' (first | ((with_reducible refine' TGet.n_base ?k0 ?_); (case k0 => k_caughtN0)) | ((with_reducible refine' TGet.n_least ?k0 ?_); (case k0 => k_caughtN0)) | ((with_reducible refine' TGet.n_most ?k0 ?_); (case k0 => k_caughtN0)) | ((with_reducible refine' TGet.n_skew ?k0 ?_); (case k0 => k_caughtN0)) | ((with_reducible refine' TGet.n_damp ?k0 ?_); (case k0 => k_caughtN0)) | k_caughtB)
      exact h

  · skip
    have z0 : 0 ≤ q / w.damp := Int.ediv_nonneg h0 (by (first | lia | omega))
    have z1 : 0 ≤ q / w.damp / m := Int.ediv_nonneg z0 (by (first | lia | omega))
    unfold ad at h
    simp only [Bool.false_eq_true, if_false, if_true] at h
    repeat' (first | ((with_reducible refine' TGet.n_base ?k0 ?_); (case k0 => k_caughtN0)) | ((with_reducible refine' TGet.n_least ?k0 ?_); (case k0 => k_caughtN0)) | ((with_reducible refine' TGet.n_most ?k0 ?_); (case k0 => k_caughtN0)) | ((with_reducible refine' TGet.n_skew ?k0 ?_); (case k0 => k_caughtN0)) | ((with_reducible refine' TGet.n_damp ?k0 ?_); (case k0 => k_caughtN0)) | k_caughtB)
    refine TS.while_ (fun n σ => ∃ dd c, σ.H = H ∧ Has σ.loc [("self", .ref i), ("delta", .int dd), ("many", .int m), ("count", .int c)] ∧ 0 ≤ dd ∧ n = dd.toNat ∧ spin w dd.toNat dd c = spin w (q / w.damp + q / w.damp / m).toNat (q / w.damp + q / w.damp / m) 0) (q / w.damp + q / w.damp / m).toNat ⟨_, _, rfl, by k_caughtNB, by (first | lia | omega), rfl, rfl⟩ ?_
    rintro n ⟨loc, H'⟩ ⟨dd, c, rfl, hl, d0, rfl, e⟩
    refine TB.forget hl ?_
    repeat' (first | ((with_reducible refine' TGet.n_base ?k0 ?_); (case k0 => k_caughtN0)) | ((with_reducible refine' TGet.n_least ?k0 ?_); (case k0 => k_caughtN0)) | ((with_reducible refine' TGet.n_most ?k0 ?_); (case k0 => k_caughtN0)) | ((with_reducible refine' TGet.n_skew ?k0 ?_); (case k0 => k_caughtN0)) | ((with_reducible refine' TGet.n_damp ?k0 ?_); (case k0 => k_caughtN0)) | k_caughtB)
    · rename_i cc
      obtain ⟨s1, s2, s3⟩ := spin_step (c := c) ok' d0 cc
      exact ⟨_, s2, _, _, rfl, by k_caughtNB, s1, rfl, s3 ▸ e⟩
    · rename_i cc
      have e2 : spin w dd.toNat dd c = (dd, c) := by
        cases dd.toNat with
        | zero => rfl
        | succ k => unfold spin; rw [if_neg cc]
      rw [← e, e2] at h
      repeat' (first | ((with_reducible refine' TGet.n_base ?k0 ?_); (case k0 => k_caughtN0)) | ((with_reducible refine' TGet.n_least ?k0 ?_); (case k0 => k_caughtN0)) | ((with_reducible refine' TGet.n_most ?k0 ?_); (case k0 => k_caughtN0)) | ((with_reducible refine' TGet.n_skew ?k0 ?_); (case k0 => k_caughtN0)) | ((with_reducible refine' TGet.n_damp ?k0 ?_); (case k0 => k_caughtN0)) | k_caughtB)
      exact h
end
section
theorem number_call {d : Nat} {E} {i : Nat} {w : Pm} {q b : Int} {H : List O} {Q : V → List O → Prop} (N : Nums H i w) (ok : w.Ok) (h0 : 0 ≤ q) (h1 : q < 2 ^ 40) (h : ∀ T, Q (.ref H.length) (H ++ .list ((nums w b 1 q).map V.int) :: T)) : TC (d + 1) E 127 [.int q, .int b, .ref i, .bool false] H Q := by
  (refine' TC.plain ?ho ?hcd ?hb ?hl ?hc ?_ (fun _ _ _ _ _ _ _ e => by subst e; exact leaves_to rfl rfl rfl rfl rfl) ?h1 ?h2 ?h3; (case ho => intro P; k_is); (case hcd => intro P; k_is); (case hb => exact Binds.fourK (fun P s v v' v'' v3 X => binds_K X rfl (by k_is) rfl rfl rfl)); (case hl => rfl); (case hc => rfl); (case h1 => rfl); (case h2 => rfl); (case h3 => rfl); (change TSs ⟨⟨_, _, _, _, _⟩, _, _, _, _⟩ _ _ (_ :: _) _))
  repeat' (first | (with_reducible refine TE.bool ?_) | (with_reducible refine TB.const ?_) | ((with_reducible refine' TGet.n_base ?k0 ?_); (case k0 => k_caughtN0)) | ((with_reducible refine' TE.mapp ?k0 ?k1 ?k2 ?_ ?k4 ?k5 ?k6); (case k0 => rfl); (case k1 => rfl); (case k2 => exact ⟨_, by k_caughtN0⟩); (case k4 => intro _; rfl); (case k5 => intro _; rfl); (case k6 => rfl)) | ((with_reducible refine' TE.m_threshold ?k0 ?k1 ?k2 ?_ ?k4 ?k5 ?k6 ?k7); (case k0 => rfl); (case k1 => rfl); (case k2 => k_caughtN0); (case k4 => intro _; rfl); (case k5 => intro _ _; rfl); (case k6 => intro _; rfl); (case k7 => rfl)) | ((with_reducible refine isCall ?_); (refine' CallF.of (Nat.lt_succ_self _) rfl (thr_call ?k0 ?k1 ?_); (case k0 => k_caughtN0); (case k1 => assumption))) | ((with_reducible refine isCall ?_); (refine' CallF.of (Nat.lt_succ_self _) rfl (figure_call2 ?_))) | ((with_reducible refine isCall ?_); (refine' CallF.of (Nat.lt_succ_self _) rfl (figure_call1 ?_))) | k_caughtB)
  refine TS.while_ (fun n σ => ∃ fs T q' k, σ.H = H ++ .list (fs.map V.int) :: T ∧ Has σ.loc [("value", .int q'), ("bias", .int b), ("numbers", .ref i), ("is_capital", .bool false), ("found", .ref H.length), ("place", .int k)] ∧ 0 ≤ q' ∧ n = q'.toNat ∧ fs.length ≤ 40 ∧ q' < 2 ^ (40 - fs.length) ∧ fs ++ nums w b k q' = nums w b 1 q) q.toNat ⟨[], [], q, 1, rfl, by k_caughtNB, h0, rfl, by simp, h1, rfl⟩ ?_
  rintro n ⟨loc, H'⟩ ⟨fs, T, q', k, eH, hl, q0, rfl, hz, hq, e⟩
  dsimp only at eH
  subst eH
  refine TB.forget hl ?_
  have tb := thr_bounds ok k b
  repeat' (first | (with_reducible refine TE.bool ?_) | (with_reducible refine TB.const ?_) | ((with_reducible refine' TGet.n_base ?k0 ?_); (case k0 => k_caughtN0)) | ((with_reducible refine' TE.mapp ?k0 ?k1 ?k2 ?_ ?k4 ?k5 ?k6); (case k0 => rfl); (case k1 => rfl); (case k2 => exact ⟨_, by k_caughtN0⟩); (case k4 => intro _; rfl); (case k5 => intro _; rfl); (case k6 => rfl)) | ((with_reducible refine' TE.m_threshold ?k0 ?k1 ?k2 ?_ ?k4 ?k5 ?k6 ?k7); (case k0 => rfl); (case k1 => rfl); (case k2 => k_caughtN0); (case k4 => intro _; rfl); (case k5 => intro _ _; rfl); (case k6 => intro _; rfl); (case k7 => rfl)) | ((with_reducible refine isCall ?_); (refine' CallF.of (Nat.lt_succ_self _) rfl (thr_call ?k0 ?k1 ?_); (case k0 => k_caughtN0); (case k1 => assumption))) | ((with_reducible refine isCall ?_); (refine' CallF.of (Nat.lt_succ_self _) rfl (figure_call2 ?_))) | ((with_reducible refine isCall ?_); (refine' CallF.of (Nat.lt_succ_self _) rfl (figure_call1 ?_))) | k_caughtB)
  · refine ⟨_, get_at _ _ _, by simp; (first | lia | omega), ?_⟩
    repeat' (first | (with_reducible refine TE.bool ?_) | (with_reducible refine TB.const ?_) | ((with_reducible refine' TGet.n_base ?k0 ?_); (case k0 => k_caughtN0)) | ((with_reducible refine' TE.mapp ?k0 ?k1 ?k2 ?_ ?k4 ?k5 ?k6); (case k0 => rfl); (case k1 => rfl); (case k2 => exact ⟨_, by k_caughtN0⟩); (case k4 => intro _; rfl); (case k5 => intro _; rfl); (case k6 => rfl)) | ((with_reducible refine' TE.m_threshold ?k0 ?k1 ?k2 ?_ ?k4 ?k5 ?k6 ?k7); (case k0 => rfl); (case k1 => rfl); (case k2 => k_caughtN0); (case k4 => intro _; rfl); (case k5 => intro _ _; rfl); (case k6 => intro _; rfl); (case k7 => rfl)) | ((with_reducible refine isCall ?_); (refine' CallF.of (Nat.lt_succ_self _) rfl (thr_call ?k0 ?k1 ?_); (case k0 => k_caughtN0); (case k1 => assumption))) | ((with_reducible refine isCall ?_); (refine' CallF.of (Nat.lt_succ_self _) rfl (figure_call2 ?_))) | ((with_reducible refine isCall ?_); (refine' CallF.of (Nat.lt_succ_self _) rfl (figure_call1 ?_))) | k_caughtB)
    rename_i c
    rw [nums_last ok c] at e
    have := h T
    rw [← e] at this
    show Q _ _
    simpa using this
  · refine ⟨_, get_at _ _ _, by simp; (first | lia | omega), ?_⟩
    rename_i c
    repeat' (first | (with_reducible refine TE.bool ?_) | (with_reducible refine TB.const ?_) | ((with_reducible refine' TGet.n_base ?k0 ?_); (case k0 => k_caughtN0)) | ((with_reducible refine' TE.mapp ?k0 ?k1 ?k2 ?_ ?k4 ?k5 ?k6); (case k0 => rfl); (case k1 => rfl); (case k2 => exact ⟨_, by k_caughtN0⟩); (case k4 => intro _; rfl); (case k5 => intro _; rfl); (case k6 => rfl)) | ((with_reducible refine' TE.m_threshold ?k0 ?k1 ?k2 ?_ ?k4 ?k5 ?k6 ?k7); (case k0 => rfl); (case k1 => rfl); (case k2 => k_caughtN0); (case k4 => intro _; rfl); (case k5 => intro _ _; rfl); (case k6 => intro _; rfl); (case k7 => rfl)) | ((with_reducible refine isCall ?_); (refine' CallF.of (Nat.lt_succ_self _) rfl (thr_call ?k0 ?k1 ?_); (case k0 => k_caughtN0); (case k1 => assumption))) | ((with_reducible refine isCall ?_); (refine' CallF.of (Nat.lt_succ_self _) rfl (figure_call2 ?_))) | ((with_reducible refine isCall ?_); (refine' CallF.of (Nat.lt_succ_self _) rfl (figure_call1 ?_))) | k_caughtB)
    obtain ⟨n1, n2⟩ := num_next ok c
    rw [nums_next ok q0 c] at e
    obtain ⟨m, em⟩ : ∃ m, 40 - fs.length = m + 1 := by
      cases z : 40 - fs.length with
      | zero => rw [z] at hq; (first | lia | omega)
      | succ m => exact ⟨m, rfl⟩
    rw [em, Int.pow_succ] at hq
    refine ⟨((q' - thr w k b) / (w.base - thr w k b)).toNat, ?_, fs ++ [dg (thr w k b + (q' - thr w k b) % (w.base - thr w k b))], T, (q' - thr w k b) / (w.base - thr w k b), k + 1, ?_, by k_caughtNB, n1, rfl, ?_, ?_, ?_⟩
    · (first | lia | omega)
    · simp
    · simp; (first | lia | omega)
    · have : 40 - (fs ++ [dg (thr w k b + (q' - thr w k b) % (w.base - thr w k b))]).length = m := by simp; (first | lia | omega)
      rw [this]
      (first | lia | omega)
    · rw [← e]; simp
end
section
theorem lthr_call {d : Nat} {E} {i : Nat} {w : Pm} {k b : Int} {H : List O} {Q : V → List O → Prop} (N : H[i]? = some (.map w.fs)) (ok : w.Ok) (h : Q (.int (thr w k b)) H) : TC d E 224 [.ref i, .int k, .int b] H Q := by
  have ok' := ok
  obtain ⟨b2, l1, lm, m26, mb, sk, dm, fs⟩ := ok
  k_caught0
  repeat' (first | (with_reducible refine CallB.min2 rfl ?_) | (with_reducible refine CallB.max2 rfl ?_) | k_caughtB)
  have e : min w.most (max w.least (w.base * k - b)) = thr w k b := by
    unfold thr
    (repeat' split) <;> (first | lia | omega)
  rw [← e] at h
  exact h
theorem ladapted_call {d : Nat} {E} {i : Nat} {w : Pm} {q m : Int} {b : Bool} {H : List O} {Q : V → List O → Prop} (N : H[i]? = some (.map w.fs)) (ok : w.Ok) (h0 : 0 ≤ q) (m0 : 0 < m ∧ m < 1000) (h : Q (.int (ad w q m b)) H) : TC d E 217 [.ref i, .int q, .int m, .bool b] H Q := by
  have sp := ok.span
  have ok' := ok
  obtain ⟨b2, l1, lm, m26, mb, sk, dm, fs⟩ := ok
  k_caught0
  cases b

  · have z0 : 0 ≤ q / 2 := Int.ediv_nonneg h0 (by (first | lia | omega))
    have z1 : 0 ≤ q / 2 / m := Int.ediv_nonneg z0 (by (first | lia | omega))
    unfold ad at h
    simp only [Bool.false_eq_true, if_false, if_true] at h
    repeat' k_caughtB
    refine TS.while_ (fun n σ => ∃ dd c, σ.H = H ∧ Has σ.loc [("w", .ref i), ("delta", .int dd), ("many", .int m), ("rounds", .int c)] ∧ 0 ≤ dd ∧ n = dd.toNat ∧ spin w dd.toNat dd c = spin w (q / 2 + q / 2 / m).toNat (q / 2 + q / 2 / m) 0) (q / 2 + q / 2 / m).toNat ⟨_, _, rfl, by k_caughtNB, by (first | lia | omega), rfl, rfl⟩ ?_
    rintro n ⟨loc, H'⟩ ⟨dd, c, rfl, hl, d0, rfl, e⟩
    refine TB.forget hl ?_
    repeat' k_caughtB
    · rename_i cc
      obtain ⟨s1, s2, s3⟩ := spin_step (c := c) ok' d0 cc
      exact ⟨_, s2, _, _, rfl, by k_caughtNB, s1, rfl, s3 ▸ e⟩
    · rename_i cc
      have e2 : spin w dd.toNat dd c = (dd, c) := by
        cases dd.toNat with
        | zero => rfl
        | succ k => unfold spin; rw [if_neg cc]
      rw [← e, e2] at h
      simp only at h
      rw [Int.mul_comm w.base c] at h
      repeat' k_caughtB
      exact h

  · have z0 : 0 ≤ q / w.damp := Int.ediv_nonneg h0 (by (first | lia | omega))
    have z1 : 0 ≤ q / w.damp / m := Int.ediv_nonneg z0 (by (first | lia | omega))
    unfold ad at h
    simp only [Bool.false_eq_true, if_false, if_true] at h
    repeat' k_caughtB
    refine TS.while_ (fun n σ => ∃ dd c, σ.H = H ∧ Has σ.loc [("w", .ref i), ("delta", .int dd), ("many", .int m), ("rounds", .int c)] ∧ 0 ≤ dd ∧ n = dd.toNat ∧ spin w dd.toNat dd c = spin w (q / w.damp + q / w.damp / m).toNat (q / w.damp + q / w.damp / m) 0) (q / w.damp + q / w.damp / m).toNat ⟨_, _, rfl, by k_caughtNB, by (first | lia | omega), rfl, rfl⟩ ?_
    rintro n ⟨loc, H'⟩ ⟨dd, c, rfl, hl, d0, rfl, e⟩
    refine TB.forget hl ?_
    repeat' k_caughtB
    · rename_i cc
      obtain ⟨s1, s2, s3⟩ := spin_step (c := c) ok' d0 cc
      exact ⟨_, s2, _, _, rfl, by k_caughtNB, s1, rfl, s3 ▸ e⟩
    · rename_i cc
      have e2 : spin w dd.toNat dd c = (dd, c) := by
        cases dd.toNat with
        | zero => rfl
        | succ k => unfold spin; rw [if_neg cc]
      rw [← e, e2] at h
      simp only at h
      rw [Int.mul_comm w.base c] at h
      repeat' k_caughtB
      exact h

theorem cased_call {d : Nat} {E} {c : Int} {H : List O} {Q : V → List O → Prop} (h : Q (.int c) H) : TC d E 160 [.int c, .none] H Q := by
  k_caught0
  repeat' (first | (with_reducible refine TB.or ?_) | k_caughtB)
  exact h
theorem scalar_call {d : Nat} {E} {c : Int} {H : List O} {Q : V → List O → Prop} (h : Q (.bool (decide (0 ≤ c ∧ c ≤ 1114111 ∧ ¬ (55296 ≤ c ∧ c ≤ 57343)))) H) : TC (d + 1) E 68 [.int c] H Q := by
  k_caught0
  repeat' (first | (with_reducible refine TE.not ?_) | (with_reducible refine TE.and ?_) | ((with_reducible refine isCall ?_); (refine' CallF.of (Nat.lt_succ_self _) rfl (is_code_call ?_))) | ((with_reducible refine isCall ?_); (refine' CallF.of (Nat.lt_succ_self _) rfl (is_surr_call ?_))) | k_caughtB)
  · rename_i z
    show Q _ _
    rw [show (!decide (55296 ≤ c ∧ c ≤ 57343)) = decide (0 ≤ c ∧ c ≤ 1114111 ∧ ¬ (55296 ≤ c ∧ c ≤ 57343)) from by rw [Bool.eq_iff_iff]; simp only [Bool.not_eq_true', decide_eq_false_iff_not, decide_eq_true_eq]; (first | lia | omega)]
    exact h
  · rename_i z
    show Q _ _
    rw [show decide (0 ≤ c ∧ c ≤ 1114111) = decide (0 ≤ c ∧ c ≤ 1114111 ∧ ¬ (55296 ≤ c ∧ c ≤ 57343)) from by rw [decide_eq_false (by (first | lia | omega)), decide_eq_false (by (first | lia | omega))]]
    exact h
end
section
section
variable {x : Sx} {E : Nat → St → Prop} {σ : St}
theorem TAsg.forg {t : Expr} {v : V} {Q : St → Prop} {loc loc' : List (PySem.Str × V)} {H : List O} (k : Has loc loc') (h : TAsg x E t v ⟨loc', H⟩ Q) : TAsg x E t v ⟨loc, H⟩ Q := fun f ρ va ex r hh tk R => (h f ρ va ex r) hh tk (R.forget k)
theorem TAsgs.forg {t : List Expr} {v : List V} {Q : St → Prop} {loc loc' : List (PySem.Str × V)} {H : List O} (k : Has loc loc') (h : TAsgs x E t v ⟨loc', H⟩ Q) : TAsgs x E t v ⟨loc, H⟩ Q := fun f ρ va ex r hh tk R => (h f ρ va ex r) hh tk (R.forget k)
theorem TItem.bytesG {value slice : Expr} {xs : List Int} {k : Int} {Q : V → St → Prop} (h0 : 0 ≤ k) (hk : k < xs.length) (h : ∀ v, xs[k.toNat]? = some v → Q (.int v) σ)
    (hs : ∀ (b : Array UInt8) t u, subscripted slice false (.bytes b t) (.int k u) = operate [.bytes b t, .int k u] (getItem (.bytes b t) (.int k u))) : TItem x E value slice (.bytes xs) (.int k) σ Q :=
  TItem.bytes h0 (List.getElem?_eq_getElem (by (first | lia | omega))) (h _ (List.getElem?_eq_getElem (by (first | lia | omega)))) hs
theorem TItem.listG {value slice : Expr} {i : Nat} {cs : List Int} {k : Int} {Q : V → St → Prop} (hi : σ.H[i]? = some (.list (cs.map V.int))) (h0 : 0 ≤ k) (hk : k < cs.length) (h : ∀ v, cs[k.toNat]? = some v → Q (.int v) σ)
    (hs : ∀ a t, subscripted slice false (.ref a) (.int k t) = operate [.ref a, .int k t] (getItem (.ref a) (.int k t))) : TItem x E value slice (.ref i) (.int k) σ Q :=
  TItem.list hi h0 (v := .int (cs[k.toNat]'(by (first | lia | omega)))) (by rw [List.getElem?_map, List.getElem?_eq_getElem (by (first | lia | omega))]; rfl) (h _ (List.getElem?_eq_getElem (by (first | lia | omega)))) hs
end
/-- the dict of an exception tells s -/
noncomputable def Told (H : List O) (j : Nat) (s : PySem.Str) : Prop := ∃ l, H[j]? = some (.dict [("told", .ref l)]) ∧ H[l]? = some (.list [.str s])
theorem told_raise {P : Nat → List O → Prop} {H : List O} {s : PySem.Str} (he : ∀ j T, Told (H ++ T) j s → P j (H ++ T)) : P (H ++ [O.list [.str s]]).length ((H ++ [O.list [.str s]]) ++ [O.dict [("told", .ref H.length)]]) := by
  have := he (H.length + 1) [.list [.str s], .dict [("told", .ref H.length)]] ⟨H.length, by simp, by simp⟩
  simpa using this
noncomputable abbrev okc (c : Int) : Prop := 0 ≤ c ∧ c ≤ 1114111 ∧ ¬ (55296 ≤ c ∧ c ≤ 57343)
/-- the value of a sign -/
noncomputable def fgr (o : Int) : Option Int := if 97 ≤ o ∧ o < 123 then some (o - 97) else if 65 ≤ o ∧ o < 91 then some (o - 65) else if 48 ≤ o ∧ o < 58 then some (o - 48 + 26) else none
theorem fgr_bounds {o g : Int} (h : fgr o = some g) : 0 ≤ g ∧ g < 36 := by
  unfold fgr at h
  (repeat' split at h) <;> (try cases h) <;> (first | lia | omega)
theorem value_call2 {d : Nat} {E} {o : Int} {H : List O} {Q : V → List O → Prop} (h0 : fgr o = none → Q .none H) (h1 : ∀ g, fgr o = some g → 0 ≤ g → g < 36 → Q (.int g) H) : TC d E 119 [.int o] H Q := by
  refine value_call ?_
  cases e : fgr o with
  | none =>
    have : vl o = V.none := by
      unfold fgr at e; unfold vl
      (repeat' split at e) <;> (try cases e)
      rw [if_neg (by assumption), if_neg (by assumption), if_neg (by assumption)]
    rw [this]; exact h0 e
  | some g =>
    have : vl o = V.int g := by
      unfold fgr at e; unfold vl
      (repeat' split at e) <;> cases e
      · rw [if_pos (by assumption)]
      · rw [if_neg (by assumption), if_pos (by assumption)]
      · rw [if_neg (by assumption), if_neg (by assumption), if_pos (by assumption)]
    rw [this]; exact h1 g e (fgr_bounds e).1 (fgr_bounds e).2
theorem drop_cons {α : Type} {xs : List α} {k : Nat} {v : α} (h : xs[k]? = some v) : xs.drop k = v :: xs.drop (k + 1) := by
  obtain ⟨hk, e⟩ := List.getElem?_eq_some_iff.mp h
  rw [List.drop_eq_getElem_cons hk, e]
inductive Res where
  | err (s : PySem.Str)
  | ok (v : Int) (n : Nat)
/-- a number read from the signs left; n counts the signs read -/
noncomputable def rd (w : Pm) (b : Int) : List Int → Nat → Int → Int → Int → Res
  | [], _, _, _, _ => .err "short"
  | o :: r, n, v, t, k => match fgr o with
    | none => .err "figure"
    | some g => if w.base ≤ g then .err "figure" else if g < thr w k b then .ok (v + g * t) (n + 1) else rd w b r (n + 1) (v + g * t) (t * (w.base - thr w k b)) (k + 1)
/-- c is the place of the last hyphen, or 0 -/
noncomputable def IsCut (xs : List Int) (c : Nat) : Prop := (∀ k, c < k → xs[k]? ≠ some 45) ∧ (0 < c → xs[c]? = some 45)
theorem IsCut.uniq {xs : List Int} {c c' : Nat} (h : IsCut xs c) (h' : IsCut xs c') : c = c' := by
  rcases Nat.lt_trichotomy c c' with z | z | z
  · exact absurd (h'.2 (by (first | lia | omega))) (h.1 _ z)
  · exact z
  · exact absurd (h.2 (by (first | lia | omega))) (h'.1 _ z)
end
local macro_rules | `(tactic| k_caughtB) => `(tactic| first
  | ((with_reducible refine' TItem.bytesG ?k0 ?k1 (fun _ _ => ?_) ?k3); (case k0 => (first | lia | omega)); (case k1 => (first | lia | omega)); (case k3 => intro _ _ _; rfl))
  )
section
theorem check_call {d : Nat} {E} {i : Nat} {cs : List Int} {H : List O} {Q : V → List O → Prop} (N : H[i]? = some (.list (cs.map V.int))) (h : (∀ c ∈ cs, okc c) → Q .none H) (he : (∃ c ∈ cs, ¬ okc c) → ∀ j T, Told (H ++ T) j "code" → E j (H ++ T)) : TC (d + 3) E 148 [.ref i] H Q := by
  k_caught0
  repeat' (first | (with_reducible refine TB.not ?_) | (with_reducible refine TB.call ?_) | (with_reducible refine ifn (fun _ => ?_) (fun _ => ?_)) | ((with_reducible refine' TS.raise ?k0 ?k1 ?k2 ?k3 ?_ ?k5 ?k6); (case k0 => rfl); (case k1 => intro P; k_is); (case k2 => exact Nat.le_add_left 3 _); (case k3 => rfl); (case k5 => intro _; rfl); (case k6 => rfl)) | ((with_reducible refine isCall ?_); (refine' CallF.of (Nat.lt_succ_self _) rfl (scalar_call ?_))) | k_caughtB)
  refine TS.for_ (TIt.list ?_ (by intro _ _; rfl)) (by intro _ _; rfl)
  repeat' (first | (with_reducible refine TB.not ?_) | (with_reducible refine TB.call ?_) | (with_reducible refine ifn (fun _ => ?_) (fun _ => ?_)) | ((with_reducible refine' TS.raise ?k0 ?k1 ?k2 ?k3 ?_ ?k5 ?k6); (case k0 => rfl); (case k1 => intro P; k_is); (case k2 => exact Nat.le_add_left 3 _); (case k3 => rfl); (case k5 => intro _; rfl); (case k6 => rfl)) | ((with_reducible refine isCall ?_); (refine' CallF.of (Nat.lt_succ_self _) rfl (scalar_call ?_))) | k_caughtB)
  refine ⟨i, _, rfl, N, fun k σ => σ.H = H ∧ Has σ.loc [("text", .ref i)] ∧ ∀ n c, n < k → cs[n]? = some c → okc c, ⟨rfl, by k_caughtNB, by (first | lia | omega)⟩, fun k σ hJ => hJ.1 ▸ N, ?_, ?_⟩
  · rintro k ⟨loc, H'⟩ hk ⟨eH, hl, hc⟩ v hv
    dsimp only at eH
    subst eH
    obtain ⟨c, hc', rfl⟩ : ∃ c, cs[k]? = some c ∧ v = .int c := by
      rw [List.getElem?_map] at hv
      cases z : cs[k]? with
      | none => rw [z] at hv; cases hv
      | some c => rw [z] at hv; cases hv; exact ⟨c, rfl, rfl⟩
    refine TAsg.forg hl ?_
    repeat' (first | (with_reducible refine TB.not ?_) | (with_reducible refine TB.call ?_) | (with_reducible refine ifn (fun _ => ?_) (fun _ => ?_)) | ((with_reducible refine' TS.raise ?k0 ?k1 ?k2 ?k3 ?_ ?k5 ?k6); (case k0 => rfl); (case k1 => intro P; k_is); (case k2 => exact Nat.le_add_left 3 _); (case k3 => rfl); (case k5 => intro _; rfl); (case k6 => rfl)) | ((with_reducible refine isCall ?_); (refine' CallF.of (Nat.lt_succ_self _) rfl (scalar_call ?_))) | k_caughtB)
    · rename_i z
      exact told_raise (P := E) (he ⟨c, List.mem_of_getElem? hc', z⟩)
    · rename_i z
      refine ⟨by k_caughtNB, fun n c' hn e => ?_⟩
      rcases Nat.lt_or_eq_of_le (Nat.le_of_lt_succ hn) with hn | rfl
      · exact hc n c' hn e
      · rw [hc'] at e; cases e; exact z
  · rintro ⟨loc, H'⟩ ⟨eH, hl, hc⟩
    dsimp only at eH
    subst eH
    repeat' (first | (with_reducible refine TB.not ?_) | (with_reducible refine TB.call ?_) | (with_reducible refine ifn (fun _ => ?_) (fun _ => ?_)) | ((with_reducible refine' TS.raise ?k0 ?k1 ?k2 ?k3 ?_ ?k5 ?k6); (case k0 => rfl); (case k1 => intro P; k_is); (case k2 => exact Nat.le_add_left 3 _); (case k3 => rfl); (case k5 => intro _; rfl); (case k6 => rfl)) | ((with_reducible refine isCall ?_); (refine' CallF.of (Nat.lt_succ_self _) rfl (scalar_call ?_))) | k_caughtB)
    refine h fun c hm => ?_
    obtain ⟨n, hn, e⟩ := List.mem_iff_getElem.mp hm
    exact hc n c (by simpa using hn) (by rw [List.getElem?_eq_getElem hn, e])

theorem numat_call {d : Nat} {E} {i at_ : Nat} {w : Pm} {xs : List Int} {b : Int} {H : List O} {Q : V → List O → Prop} (N : Nums H i w) (ok : w.Ok) (ha : at_ ≤ xs.length)
    (h : ∀ v n, rd w b (xs.drop at_) 0 0 1 1 = .ok v n → ∀ T, Q (.ref (H ++ T).length) (H ++ T ++ [.tuple [.int v, .int (at_ + n : Nat)]])) (he : ∀ s, rd w b (xs.drop at_) 0 0 1 1 = .err s → ∀ j T, Told (H ++ T) j s → E j (H ++ T)) : TC (d + 3) E 134 [.bytes xs, .int at_, .int b, .ref i] H Q := by
  k_caught0
  repeat' (first | (with_reducible refine TE.bool ?_) | (with_reducible refine TB.or ?_) | (with_reducible refine TB.const ?_) | ((with_reducible refine' TGet.n_base ?k0 ?_); (case k0 => k_caughtN0)) | ((with_reducible refine' TE.m_threshold ?k0 ?k1 ?k2 ?_ ?k4 ?k5 ?k6 ?k7); (case k0 => rfl); (case k1 => rfl); (case k2 => k_caughtN0); (case k4 => intro _; rfl); (case k5 => intro _ _; rfl); (case k6 => intro _; rfl); (case k7 => rfl)) | ((with_reducible refine' TS.raise ?k0 ?k1 ?k2 ?k3 ?_ ?k5 ?k6); (case k0 => rfl); (case k1 => intro P; k_is); (case k2 => exact Nat.le_add_left 3 _); (case k3 => rfl); (case k5 => intro _; rfl); (case k6 => rfl)) | ((with_reducible refine isCall ?_); (refine' CallF.of (Nat.lt_succ_self _) rfl (thr_call ?k0 ?k1 ?_); (case k0 => k_caughtN0); (case k1 => assumption))) | ((with_reducible refine isCall ?_); (refine' CallF.of (Nat.lt_succ_self _) rfl (value_call2 (fun _ => ?_) (fun _ _ _ _ => ?_)))) | k_caughtB | ((with_reducible refine' TS.asgD ?_ ?k1 ?k2 ?k3 ?k4 ?k5 ?k6); (case k1 => intro _ _; rfl); (case k2 => intro env e; cases env; dsimp only at e; subst e; rfl); (case k3 => intro _; rfl); (case k4 => intro _; rfl); (case k5 => simp); (case k6 => rfl)))
  refine TS.while_ (fun n σ => ∃ (m : Nat) (v t k : Int), σ.H = H ∧ Has σ.loc [("octets", .bytes xs), ("at", .int (at_ + m : Nat)), ("bias", .int b), ("numbers", .ref i), ("value", .int v), ("weight", .int t), ("place", .int k)] ∧ at_ + m ≤ xs.length ∧ n = xs.length - (at_ + m) ∧ rd w b (xs.drop (at_ + m)) m v t k = rd w b (xs.drop at_) 0 0 1 1) (xs.length - at_) ⟨0, 0, 1, 1, rfl, by k_caughtNB, ha, rfl, rfl⟩ ?_
  rintro n ⟨loc, H'⟩ ⟨m, v, t, k, eH, hl, hm, rfl, e⟩
  dsimp only at eH
  subst eH
  refine TB.forget hl ?_
  have tb := thr_bounds ok k b
  obtain b2 := ok.b2
  repeat' (first | (with_reducible refine TE.bool ?_) | (with_reducible refine TB.or ?_) | (with_reducible refine TB.const ?_) | ((with_reducible refine' TGet.n_base ?k0 ?_); (case k0 => k_caughtN0)) | ((with_reducible refine' TE.m_threshold ?k0 ?k1 ?k2 ?_ ?k4 ?k5 ?k6 ?k7); (case k0 => rfl); (case k1 => rfl); (case k2 => k_caughtN0); (case k4 => intro _; rfl); (case k5 => intro _ _; rfl); (case k6 => intro _; rfl); (case k7 => rfl)) | ((with_reducible refine' TS.raise ?k0 ?k1 ?k2 ?k3 ?_ ?k5 ?k6); (case k0 => rfl); (case k1 => intro P; k_is); (case k2 => exact Nat.le_add_left 3 _); (case k3 => rfl); (case k5 => intro _; rfl); (case k6 => rfl)) | ((with_reducible refine isCall ?_); (refine' CallF.of (Nat.lt_succ_self _) rfl (thr_call ?k0 ?k1 ?_); (case k0 => k_caughtN0); (case k1 => assumption))) | ((with_reducible refine isCall ?_); (refine' CallF.of (Nat.lt_succ_self _) rfl (value_call2 (fun _ => ?_) (fun _ _ _ _ => ?_)))) | k_caughtB | ((with_reducible refine' TS.asgD ?_ ?k1 ?k2 ?k3 ?k4 ?k5 ?k6); (case k1 => intro _ _; rfl); (case k2 => intro env e; cases env; dsimp only at e; subst e; rfl); (case k3 => intro _; rfl); (case k4 => intro _; rfl); (case k5 => simp); (case k6 => rfl)))
  · rename_i c
    rw [List.drop_eq_nil_of_le (by (first | lia | omega))] at e
    exact told_raise (P := E) (he _ e.symm)
  · rename_i c o ho hg
    rw [drop_cons (show xs[at_ + m]? = some o from ho), rd, hg] at e
    exact told_raise (P := E) (he _ e.symm)
  · rename_i c o ho g hg g0 g1 z
    rw [drop_cons (show xs[at_ + m]? = some o from ho), rd, hg] at e
    simp only [if_pos z] at e
    exact told_raise (P := E) (he _ e.symm)
  · rename_i c o ho g hg g0 g1 z z2
    rw [drop_cons (show xs[at_ + m]? = some o from ho), rd, hg] at e
    simp only [if_neg z, if_pos z2] at e
    have := h _ _ e.symm []
    simp only [List.append_nil] at this
    rw [show ((at_ + (m + 1) : Nat) : Int) = ((at_ + m : Nat) : Int) + 1 from by (first | lia | omega)] at this
    exact this
  · rename_i c o ho g hg g0 g1 z z2
    rw [drop_cons (show xs[at_ + m]? = some o from ho), rd, hg] at e
    simp only [if_neg z, if_neg z2] at e
    refine ⟨xs.length - (at_ + (m + 1)), by (first | lia | omega), m + 1, v + g * t, t * (w.base - thr w k b), k + 1, rfl, ?_, by (first | lia | omega), rfl, e⟩
    rw [show ((at_ + (m + 1) : Nat) : Int) = ((at_ + m : Nat) : Int) + 1 from by (first | lia | omega)]
    k_caughtNB
end
section
theorem split_call {d : Nat} {E} {xs : List Int} {H : List O} {Q : V → List O → Prop} (h : ∀ c, IsCut xs c → Q (.ref H.length) (H ++ [.tuple [.bytes (xs.take c), .int (if c = 0 then 0 else c + 1)]])) : TC d E 175 [.bytes xs] H Q := by
  k_caught0
  repeat' (first | ((with_reducible refine' TE.bytes ?_ ?k1); (case k1 => decide)) | (with_reducible refine TB.and ?_) | (with_reducible refine Op2.ne ?_) | (with_reducible refine TE.cut ?_) | (with_reducible refine TOpt.none ?_) | (with_reducible refine TOpt.some ?_) | ((with_reducible refine' TCut.bytes ?_ ?k1 ?k2); (case k1 => intro _ _ _; rfl); (case k2 => intro _ _ _; rfl)) | k_caughtB)
  refine TS.while_ (fun n σ => ∃ k : Int, σ.H = H ∧ Has σ.loc [("octets", .bytes xs), ("at", .int k)] ∧ -1 ≤ k ∧ k < xs.length ∧ n = (k + 1).toNat ∧ ∀ j : Nat, k < j → 0 < j → xs[j]? ≠ some 45) (xs.length : Int).toNat ⟨xs.length - 1, rfl, by k_caughtNB, by (first | lia | omega), by (first | lia | omega), by (first | lia | omega), fun j hj h0 => by rw [List.getElem?_eq_none (by (first | lia | omega))]; simp⟩ ?_
  rintro n ⟨loc, H'⟩ ⟨k, eH, hl, k0, k1, rfl, hk⟩
  dsimp only at eH
  subst eH
  refine TB.forget hl ?_
  repeat' (first | ((with_reducible refine' TE.bytes ?_ ?k1); (case k1 => decide)) | (with_reducible refine TB.and ?_) | (with_reducible refine Op2.ne ?_) | (with_reducible refine TE.cut ?_) | (with_reducible refine TOpt.none ?_) | (with_reducible refine TOpt.some ?_) | ((with_reducible refine' TCut.bytes ?_ ?k1 ?k2); (case k1 => intro _ _ _; rfl); (case k2 => intro _ _ _; rfl)) | k_caughtB)
  · rename_i c o ho hne
    refine ⟨k.toNat, by (first | lia | omega), k - 1, rfl, by k_caughtNB, by (first | lia | omega), by (first | lia | omega), by (first | lia | omega), fun j hj h0 => ?_⟩
    by_cases z : k < j
    · exact hk j z h0
    · have : j = k.toNat := by (first | lia | omega)
      subst this
      rw [ho]
      intro q
      exact hne (Option.some.inj q)
  · (first | lia | omega)
  · rename_i c o ho heq z
    have heq : o = 45 := by (first | lia | omega)
    subst heq
    have := h k.toNat ⟨fun j hj => hk j (by (first | lia | omega)) (by (first | lia | omega)), fun _ => ho⟩
    rw [if_neg (by (first | lia | omega))] at this
    show Q _ _
    have e1 : clipAt xs.length k = k.toNat := by unfold clipAt; rw [if_neg (by (first | lia | omega))]; (first | lia | omega)
    simp only [Option.elim, e1, List.drop_zero, Nat.sub_zero]
    rw [show ((k.toNat : Nat) : Int) = k from by (first | lia | omega)] at this
    exact this
  · have : k ≤ 0 := by (first | lia | omega)
    have := h 0 ⟨fun j hj => hk j (by (first | lia | omega)) (by (first | lia | omega)), fun z => by (first | lia | omega)⟩
    exact this
  · (first | lia | omega)
end
section
section
variable {x : Sx} {E : Nat → St → Prop} {σ : St}
theorem compR {cells : List (PySem.Str × Nat)} {scope : Scope} (h1 : (scope.names.all fun y => y.2 != .cell) = true) (h2 : (scope.names.all fun y => y.2 != .free || (cells.lookup y.1).isSome) = true) (h3 : (scope.names.all fun y => y.2 != .local || scope.names.lookup y.1 == some .local) = true) :
    (∀ y ∈ scope.names, y.2 ≠ .cell) ∧ (∀ y ∈ scope.names, y.2 = .free → (cells.lookup y.1).isSome = true) ∧ (∀ y ∈ scope.names, y.2 = .local → scope.names.lookup y.1 = some .local) := by
  refine ⟨fun y hy e => ?_, fun y hy e => ?_, fun y hy e => ?_⟩
  · have := List.all_eq_true.mp h1 y hy
    rw [e] at this
    exact absurd this (by decide)
  · have := List.all_eq_true.mp h2 y hy
    rw [e] at this
    simpa using this
  · have := List.all_eq_true.mp h3 y hy
    rw [e] at this
    simpa using this
theorem TE.compB {elt tgt iter : Expr} {ifs : List Expr} {scope : Scope} {pos : Pos} {Q : V → St → Prop} (h : TIt x E tgt σ iter fun n L A σ₁ => TLoop x elt ifs scope n L A σ₁ fun σ₂ => Q (.ref σ₁.H.length) σ₂)
    (hs : ∀ env u, foldedSetIterable iter env u = pure u) (hkind : scope.kind = .function) (h1 : (scope.names.all fun y => y.2 != .cell) = true) (h2 : (scope.names.all fun y => y.2 != .free || (x.cells.lookup y.1).isSome) = true) (h3 : (scope.names.all fun y => y.2 != .local || scope.names.lookup y.1 == some .local) = true) :
    TE x E σ (.ListComp elt [⟨tgt, iter, ifs, 0⟩] scope pos) Q := TE.comp h hs (compR h1 h2 h3).1 hkind (compR h1 h2 h3).2.1 (compR h1 h2 h3).2.2
theorem TS.asgCompB {n : PySem.Str} {np : Pos} {elt tgt iter : Expr} {ifs : List Expr} {scope : Scope} {pos p : Pos} {Q : Fl → St → Prop} (h : TIt x E tgt σ iter fun n' L A σ₁ => TLoop x elt ifs scope n' L A σ₁ fun σ₂ => TAsg x E (.Name n np) (.ref σ₁.H.length) σ₂ fun σ₃ => Q .next σ₃)
    (hsw : ∀ env : Env, env.scope = x.sc → swapsWith (.ListComp elt [⟨tgt, iter, ifs, 0⟩] scope pos) (some (.Name n np)) p.line env = pure true)
    (hs : ∀ env u, foldedSetIterable iter env u = pure u) (hkind : scope.kind = .function) (h1 : (scope.names.all fun y => y.2 != .cell) = true) (h2 : (scope.names.all fun y => y.2 != .free || (x.cells.lookup y.1).isSome) = true) (h3 : (scope.names.all fun y => y.2 != .local || scope.names.lookup y.1 == some .local) = true) :
    TS x E σ (.Assign [.Name n np] (.ListComp elt [⟨tgt, iter, ifs, 0⟩] scope pos) p) Q := TS.asgComp h hsw hs (compR h1 h2 h3).1 hkind (compR h1 h2 h3).2.1 (compR h1 h2 h3).2.2
theorem TTests.nil {Q : Bool → St → Prop} (h : Q true σ) : TTests x [] σ Q := h
theorem TTests.one {c : Expr} {Q : Bool → St → Prop} (h : TB x EN σ c Q) : TTests x [c] σ Q := h
/-- one turn of a comprehension over the items of a list: the general form, over pure lists -/
theorem take_succ {α : Type} {cs : List α} {k : Nat} {v : α} (h : cs[k]? = some v) : cs.take (k + 1) = cs.take k ++ [v] := by
  rw [List.take_add_one, h]; rfl
theorem get_map {cs : List Int} {k : Nat} {v : V} (h : (cs.map V.int)[k]? = some v) : ∃ c, cs[k]? = some c ∧ v = .int c := by
  rw [List.getElem?_map] at h
  cases z : cs[k]? with
  | none => rw [z] at h; cases h
  | some c => rw [z] at h; cases h; exact ⟨c, rfl, rfl⟩
end
theorem get_atn {α : Type} (H T : List α) (k : Nat) : (H ++ T)[H.length + k]? = T[k]? := by rw [List.getElem?_append_right (Nat.le_add_right ..), Nat.add_sub_cancel_left]
theorem get_at2 {α : Type} (H : List α) (a b c : α) (T : List α) : (H ++ a :: b :: c :: T)[H.length + 1 + 1]? = some c := get_atn H _ 2
theorem get_at3 {α : Type} (H : List α) (a b c e : α) (T : List α) : (H ++ a :: b :: c :: e :: T)[H.length + 1 + 1 + 1]? = some e := get_atn H _ 3
theorem set_at1 {α : Type} (H : List α) (a b c : α) (T : List α) : (H ++ a :: b :: T).set (H.length + 1) c = H ++ a :: c :: T := by
  rw [List.set_append_right _ _ (Nat.le_add_right ..), Nat.add_sub_cancel_left]; rfl
end
local macro_rules | `(tactic| k_caughtN0) => `(tactic| first | assumption | exact get_at _ _ _ | exact get_at1 _ _ _ _ | exact get_at2 _ _ _ _ _ | exact get_at3 _ _ _ _ _ _ | exact get_at _ _ [] | exact Nums.mono (by assumption) _ | exact get_left (by assumption) _ | exact Nums.mono (Nums.mono (by assumption) _) _ | exact get_left (get_left (by assumption) _) _)
section
theorem least_call {d : Nat} {E} {i : Nat} {cs : List Int} {c : Int} {H : List O} {Q : V → List O → Prop} (N : H[i]? = some (.list (cs.map V.int))) (hz : cs.length < 1000) (hc : ∃ a ∈ cs, c ≤ a) (h : ∀ M, M ∈ cs → c ≤ M → (∀ a ∈ cs, c ≤ a → M ≤ a) → ∀ T, Q (.int M) (H ++ T)) : TC d E 153 [.ref i, .int c] H Q := by
  refine' TC.cells (cn := ["code"]) ?ho ?hcd ?hb ?hk1 ?hcn ?hnd ?hbn ?_ (fun _ _ _ _ _ _ _ e1 _ _ _ _ e2 e3 e4 _ _ e5 => leaves_to e1 e2 e3 e4 e5) ?h1 ?h2 ?h3; (case ho => intro P; k_is); (case hcd => intro P; k_is); (case hb => first | exact Binds.one fun _ => rfl | exact Binds.two fun _ _ => rfl | exact Binds.three fun _ _ _ => rfl | exact Binds.four fun _ _ _ _ => rfl | exact Binds.twoK (fun P s v v' X => binds_K X rfl (by k_is) rfl rfl rfl) | exact Binds.fourK (fun P s v v' v'' v3 X => binds_K X rfl (by k_is) rfl rfl rfl) | exact Binds.oneD (u' := .bool false) (fun P s v X => binds_K X rfl (by k_is) rfl rfl rfl) (fun _ _ => rfl) | exact Binds.oneD (u' := .none) (fun P s v X => binds_K X rfl (by k_is) rfl rfl rfl) (fun _ _ => rfl) | exact Binds.oneDD (u' := .none) (u'' := .none) (fun P s v X => binds_K X rfl (by k_is) rfl rfl rfl) (fun _ _ => rfl) (fun _ _ => rfl) | exact Binds.twoD (u' := .none) (fun P s v v' X => binds_K X rfl (by k_is) rfl rfl rfl) (fun _ _ => rfl)); (case hk1 => intro _; rfl); (case hcn => intro _; rfl); (case hnd => decide); (case hbn => simp only [List.map_cons, List.map_nil]; decide); (case h1 => rfl); (case h2 => rfl); (case h3 => rfl); (change TSs ⟨⟨_, _, _, _, _⟩, _, _, _, _⟩ _ _ (_ :: _) _)
  refine TSs.heap (H' := H ++ [.cell (some (.int c))]) rfl ?_
  refine TSs.forg (loc' := [("text", .ref i)]) (by k_caughtNB) ?_
  repeat' (first | (with_reducible refine TTests.one ?_) | k_caughtB)
  refine TE.compB (TIt.list ?_ (by intro _ _; rfl)) (by intro _ _; rfl) rfl rfl rfl rfl
  repeat' (first | (with_reducible refine TTests.one ?_) | k_caughtB)
  have len1 : (H ++ [O.cell (some (.int c))]).length = H.length + 1 := by simp
  refine ⟨i, _, rfl, get_left N _, fun k σ => σ.H = H ++ [.cell (some (.int c)), .list (((cs.take k).filter (fun a => decide (c ≤ a))).map V.int)], by simp, fun k σ e => by rw [e]; exact get_left N _, ?_, ?_⟩
  · rintro k ⟨loc, H'⟩ hk eH v hv
    dsimp only at eH
    subst eH
    obtain ⟨a, ha, rfl⟩ := get_map hv
    refine TAsg.forg (loc' := []) Has.nil ?_
    repeat' (first | (with_reducible refine TTests.one ?_) | k_caughtB)
    · rename_i z
      refine ⟨_, by rw [len1]; exact get_at1 _ _ _ _, ?_, ?_⟩
      · have h1 := List.length_filter_le (fun a => decide (c ≤ a)) (cs.take k)
        have h2 : (cs.take k).length ≤ cs.length := by rw [List.length_take]; (first | lia | omega)
        simp only [List.length_map]
        (first | lia | omega)
      · dsimp only
        rw [len1, set_at1, take_succ ha, List.filter_append, List.filter_cons_of_pos (by simpa using z), List.map_append]
        rfl
    · rename_i z
      dsimp only
      rw [take_succ ha, List.filter_append, List.filter_cons_of_neg (by simpa using z)]
      simp
  · rintro ⟨loc, H'⟩ eH
    dsimp only at eH
    subst eH
    repeat' (first | (with_reducible refine TTests.one ?_) | k_caughtB)
    rw [List.length_map, List.take_length]
    refine CallB.minL rfl (by rw [len1]; exact get_at1 _ _ _ _) ?_ fun M hM hle => ?_
    · obtain ⟨a, ha, z⟩ := hc
      exact List.length_pos_of_mem (List.mem_filter.mpr ⟨ha, by simpa using z⟩)
    · have hM' := List.mem_filter.mp hM
      exact h M hM'.1 (by simpa using hM'.2) (fun a ha z => hle a (List.mem_filter.mpr ⟨ha, by simpa using z⟩)) _
end
section
noncomputable def newFx (f : Fx) : Fx := { f with A := inNew f.A, x := { f.x with d := f.x.d - 1 } }
theorem Fx.Ok.inNew {f : Fx} (ok : f.Ok) (h : 0 < f.x.d) : (newFx f).Ok := by
  refine ⟨ok.ki, ok.top, ok.kind, ok.sc, ok.loc, ok.glob, ok.blt, ok.frm, ok.fr, ok.hand, ok.guards, ok.frs, ok.fe, ?_, ?_⟩
  · have := ok.depth
    show f.A.depth + 1 + (f.x.d - 1) < recursionLimit
    (first | lia | omega)
  · have := ok.units
    show f.A.units + 1 + 16 * (f.x.d - 1) + 64 < cLine
    (first | lia | omega)
/-- the call of a class with an __init__ of its own -/
theorem CallF.make {x : Sx} {E : Nat → St → Prop} {σ : St} {d : Nat} {C fI : Addr} {args : List V} {Q : V → St → Prop} {name qual : PySem.Str} {params : Arguments} {body : List Stmt} {scope : Scope} {dV kV doc pm cdv ct oc : Value} {an od : Option Addr} {osl : Array (Option Value)} {binds : List (PySem.Str × V)}
    (hd2 : d + 1 < x.d) (hn : x.hx = false) (hm : ∀ P, makesIn (hd.heap_39 P) C = true) (hi : ∀ P, findIn (hd.heap_39 P) (.ref C) "__init__" = some (some (.ref fI))) (hf : ∀ P, isFn (hd.heap_39 P) (.ref fI) = true)
    (ho : ∀ P, (hd.heap_39 P).lookup fI = some ⟨oc, od, .func (fnX name qual params body scope [] dV kV doc pm an cdv ct), osl⟩) (hcd : ∀ P, codeIn (hd.heap_39 P) cdv qual = true)
    (hb : Binds (fnX name qual params body scope [] dV kV doc pm an cdv ct) (.ref (σ.H.length + 1) :: args) binds) (hl : (binds.map (·.1)).all (fun y => scope.names.lookup y == some .local) = true) (hcell : (scope.names.all fun x => x.2 != .cell) = true)
    (h : TSs ⟨scope, [], d, false, true⟩ EN ⟨binds.reverse, σ.H ++ [.dict [], .inst C σ.H.length]⟩ body (fun fl σ' => fl = .next ∧ Q (.ref (σ.H.length + 1)) ⟨σ.loc, σ'.H⟩))
    (hco : scope.isCoroutine = false := by rfl) (hgen : scope.isGenerator = false := by rfl) (hk : scope.kind = .function := by rfl) : CallF x E C args σ Q := by
  intro f ρ us ex ra hh tk R Qc Ec hq he
  obtain ⟨m, objs, fo, W⟩ := R
  have KI : (hd.heap_39 f.w.params).In f.base := W.ok.ki
  refine call_cls (K := hd.heap_39 f.w.params) (h₀ := f.base) (L := f.L) (m := m) (news := allNews f ρ objs fo) W.fr KI W.news (hm _) (hi _) (hf _) fun a dx h' F' N' l1 l2 => ?_
  have W₁ := W.new1 F' (fun p hp => N' p (List.mem_cons_of_mem _ hp)) l1 (x := .dict []) ⟨[], 0, rfl, .nil⟩
  have za := N' (a, instObj C dx) (List.mem_cons_self ..)
  have W₂ := W₁.adopt (a := a) (fun q => by
    rw [← W₁.all1] at q
    obtain ⟨p, hp, e⟩ := List.mem_map.mp q
    have hp' : p ∈ allNews f ρ objs fo ∨ p.1 = dx := by
      rcases List.mem_append.mp hp with hp | hp
      · exact .inl (List.mem_append_left _ hp)
      · rcases List.mem_append.mp hp with hp | hp
        · exact .inl (List.mem_append_right _ (List.mem_append_left _ hp))
        · rw [List.zip_append W.len] at hp
          rcases List.mem_append.mp hp with hp | hp
          · exact .inl (List.mem_append_right _ (List.mem_append_right _ hp))
          · refine .inr ?_
            simp only [List.zip_cons_cons, List.zip_nil_right, List.mem_singleton] at hp
            rw [hp]
    rcases hp' with hp' | hp'
    · have := l1 p hp'; rw [e] at this; exact absurd (Nat.lt_trans l2 this) (Nat.lt_irrefl _)
    · rw [← e, hp'] at l2; exact Nat.lt_irrefl _ l2) za.2.1 za.2.2 za.1 (x := .inst C σ.H.length) ⟨dx, by rw [← W.lenH]; simp, rfl⟩
  have KI' : (hd.heap_39 f.w.params).In h' := KI.keeps W₂.fr.keep
  have hbase : All2 (Rv f.base ((ρ ++ [dx]) ++ [a])) (.ref (σ.H.length + 1) :: args) (.ref a :: us) := .cons ⟨a, by rw [← W.lenH]; simp, rfl⟩ (ra.mono fun _ _ => Rv.mono (by rw [List.append_assoc]; exact List.prefix_append _ _))
  obtain ⟨bs, hbind, hbs⟩ := hb f _ _ hbase
  have hnames : ∀ y ∈ bs, scope.names.lookup y.1 = some .local := fun y hy => by
    have := List.all_eq_true.mp hl y.1 (by rw [hbs.map_fst]; exact List.mem_map_of_mem hy)
    simpa using this
  rw [under_tc]
  refine codeAny_call_def (fd := fnX name qual params body scope [] dV kV doc pm an cdv ct) (body := body) (binds := bs) ?_ (KI' _ _ (ho _)) rfl (W.ok.top.nolimit.keeps W₂.fr.keep) (codeRec_of KI' (hcd _)) rfl (hbind _ KI') ?_ hnames ?_ hco hgen hk
  · have := W.ok.depth
    rw [ex] at this
    show f.A.depth + 1 < recursionLimit
    (first | lia | omega)
  · intro y hy
    have := List.all_eq_true.mp hcell y hy
    simpa using this
  · intro h₁ hns hk₁
    have p0 : 0 < f.x.d := by rw [ex]; (first | lia | omega)
    have ok₁ : (newFx f).Ok := W.ok.inNew p0
    have ok' : ((newFx f).above scope d (envX qual scope h'.objs.size fI cdv []) h'.objs.size m).Ok := ok₁.above (by show f.x.hx = false; rw [ex]; exact hn) (by show d < f.x.d - 1; have := hd2; rw [← ex] at this; (first | lia | omega)) rfl hk rfl rfl rfl rfl
    obtain ⟨oL, W'⟩ := W₂.enter (f' := (newFx f).above scope d (envX qual scope h'.objs.size fI cdv []) h'.objs.size m) (loc' := binds.reverse) ok' rfl rfl rfl rfl (Nat.le_refl _) hns hk₁ (fun x V e => binds_lookup hbs.reverse e) rfl
    have eH : σ.H ++ [O.dict []] ++ [O.inst C σ.H.length] = σ.H ++ [.dict [], .inst C σ.H.length] := by simp
    simp only [eH] at W'
    refine (h _ _ rfl) h₁ (tk + bs.length) ⟨_, _, _, W'⟩ _ _ ?_ ⟨PassesOwn.leaving, fun _ _ _ _ _ _ z => z.elim⟩
    intro fl fl' σ' ρ' h₂ t' ⟨q1, q2⟩ k R' r
    subst q1
    cases r
    have kk : ρ <+: ρ' := (show ρ <+: (ρ ++ [dx]) ++ [a] by rw [List.append_assoc]; exact List.prefix_append _ _).trans k
    have RB := W.back (f' := (newFx f).above scope d (envX qual scope h'.objs.size fI cdv []) h'.objs.size m) rfl rfl rfl rfl kk R'
    refine ⟨rfl, hq _ _ ⟨σ.loc, σ'.H⟩ ρ' h₂ t' q2 kk RB ⟨a, pre_get k ?_, rfl⟩⟩
    rw [← W.lenH]; simp
end
section
theorem TE.call0 {x : Sx} {E : Nat → St → Prop} {σ : St} {n : PySem.Str} {p pos : Pos} {a : Addr} {Q : V → St → Prop} (hk : x.sc.names.lookup n = some .globalImplicit) (hg : ∀ P, nsIn (hd.heap_39 P) mainGlobals n = some (some (.ref a)))
    (hkeep : ∀ P, keepIn (hd.heap_39 P) (.ref a) = true) (h : CallF x E a [] σ Q) (hdb : (n == ("__debug__" : PySem.Str)) = false) : TE x E σ (.Call (.Name n p) [] [] pos) Q := fun f ρ ex hh tk R Qc Ec hq hE => by
  rw [arm_eval_Call_Name']
  refine wpAny_bind (eval_gname R.ok R.stays (by rw [ex]; exact hk) (hg _) ?_ hdb)
  have KI : (hd.heap_39 f.w.params).In hh := R.ok.ki.keeps R.stays
  refine callWith_K0 (K := hd.heap_39 f.w.params) KI (hkeep _) ?_
  exact (h f ρ [] ex .nil) hh tk R Qc Ec hq hE
theorem Binds.eightK {a : FuncData} {u1 u2 u3 u4 u5 u6 u7 u8 : V} {n1 n2 n3 n4 n5 n6 n7 n8 : PySem.Str} (h : ∀ P (s : Shared) v1 v2 v3 v4 v5 v6 v7 v8, (hd.heap_39 P).In s.heap → BindsTo s a ⟨[v1, v2, v3, v4, v5, v6, v7, v8], []⟩ [(n1, v1), (n2, v2), (n3, v3), (n4, v4), (n5, v5), (n6, v6), (n7, v7), (n8, v8)]) :
    Binds a [u1, u2, u3, u4, u5, u6, u7, u8] [(n1, u1), (n2, u2), (n3, u3), (n4, u4), (n5, u5), (n6, u6), (n7, u7), (n8, u8)] := fun f ρ vs r => by
  cases r with
  | cons r1 t => cases t with
    | cons r2 t => cases t with
      | cons r3 t => cases t with
        | cons r4 t => cases t with
          | cons r5 t => cases t with
            | cons r6 t => cases t with
              | cons r7 t => cases t with
                | cons r8 t => cases t; exact ⟨_, fun s X => h _ s _ _ _ _ _ _ _ _ X, .cons ⟨rfl, r1⟩ (.cons ⟨rfl, r2⟩ (.cons ⟨rfl, r3⟩ (.cons ⟨rfl, r4⟩ (.cons ⟨rfl, r5⟩ (.cons ⟨rfl, r6⟩ (.cons ⟨rfl, r7⟩ (.cons ⟨rfl, r8⟩ .nil)))))))⟩
theorem Binds.one7 {a : FuncData} {u1 u2 u3 u4 u5 u6 u7 u8 : V} {n1 n2 n3 n4 n5 n6 n7 n8 : PySem.Str} {c2 c3 c4 c5 c6 c7 c8 : Value} (h : ∀ P (s : Shared) v1, (hd.heap_39 P).In s.heap → BindsTo s a ⟨[v1], []⟩ [(n1, v1), (n2, c2), (n3, c3), (n4, c4), (n5, c5), (n6, c6), (n7, c7), (n8, c8)])
    (h2 : ∀ B ρ, Rv B ρ u2 c2) (h3 : ∀ B ρ, Rv B ρ u3 c3) (h4 : ∀ B ρ, Rv B ρ u4 c4) (h5 : ∀ B ρ, Rv B ρ u5 c5) (h6 : ∀ B ρ, Rv B ρ u6 c6) (h7 : ∀ B ρ, Rv B ρ u7 c7) (h8 : ∀ B ρ, Rv B ρ u8 c8) :
    Binds a [u1] [(n1, u1), (n2, u2), (n3, u3), (n4, u4), (n5, u5), (n6, u6), (n7, u7), (n8, u8)] := fun f ρ vs r => by
  cases r with
  | cons r1 t => cases t; exact ⟨_, fun s X => h _ s _ X, .cons ⟨rfl, r1⟩ (.cons ⟨rfl, h2 _ _⟩ (.cons ⟨rfl, h3 _ _⟩ (.cons ⟨rfl, h4 _ _⟩ (.cons ⟨rfl, h5 _ _⟩ (.cons ⟨rfl, h6 _ _⟩ (.cons ⟨rfl, h7 _ _⟩ (.cons ⟨rfl, h8 _ _⟩ .nil)))))))⟩
theorem TAsg.nfield {x : Sx} {E : Nat → St → Prop} {H : List O} {loc : List (PySem.Str × V)} {es : List (PySem.Str × V)} {n name : PySem.Str} {np p : Pos} {v : V} {Q : St → Prop} (hk : x.sc.names.lookup n = some .local) (hv : loc.lookup n = some (.ref (H.length + 1))) (hf : es.lookup name = Option.none) (hz : es.length < 1000)
    (ht : ∀ P, takerIn (hd.heap_39 P) 100 name = some Option.none) (h : Q ⟨loc, H ++ [.dict (es ++ [(name, v)]), .inst 100 H.length]⟩) (hdb : (n == ("__debug__" : PySem.Str)) = false) : TAsg x E (.Attribute (.Name n np) name p) v ⟨loc, H ++ [.dict es, .inst 100 H.length]⟩ Q := by
  refine TAsg.field (TE.loc hk hv ⟨rfl, rfl⟩ hdb) (get_at1 _ _ _ _) (get_at _ _ _) hf hz (by intro P; k_is) (by intro P; k_is) ht (by intro P; k_is) ?_
  dsimp only
  rw [set_at]
  exact h
theorem numbers7 {x : Sx} {E : Nat → St → Prop} {σ : St} {w : Pm} {Q : V → St → Prop} {d : Nat} (hd2 : d + 1 < x.d) (hn : x.hx = false) (h : Q (.ref (σ.H.length + 1)) ⟨σ.loc, σ.H ++ [.dict w.fs, .inst 100 σ.H.length]⟩) : CallF x E 100 [.int w.base, .int w.least, .int w.most, .int w.skew, .int w.damp, .int w.bias, .int w.first] σ Q := by
  refine' CallF.make (fI := 83) hd2 hn ?hm ?hi ?hf ?ho ?hcd ?hb ?hl ?hc ?_ ?h1 ?h2 ?h3
  case hm => intro P; k_is
  case hi => intro P; k_is
  case hf => intro P; k_is
  case ho => intro P; k_is
  case hcd => intro P; k_is
  case hb => exact Binds.eightK (fun P s v1 v2 v3 v4 v5 v6 v7 v8 X => binds_K X rfl (by k_is) rfl rfl rfl)
  case hl => rfl
  case hc => rfl
  case h1 => rfl
  case h2 => rfl
  case h3 => rfl
  change TSs ⟨⟨_, _, _, _, _⟩, _, _, _, _⟩ _ _ (_ :: _) _
  repeat' k_caughtB
  iterate 7
    refine' TAsg.nfield ?a ?b ?c ?d ?e ?_ ?f
    case a => rfl
    case b => rfl
    case c => rfl
    case d => simp
    case e => intro P; k_is
    case f => rfl
    repeat' k_caughtB
  exact h
noncomputable def std : Pm := ⟨36, 1, 26, 38, 700, 72, 128⟩
theorem numbers0 {x : Sx} {E : Nat → St → Prop} {σ : St} {Q : V → St → Prop} {d : Nat} (hd2 : d + 1 < x.d) (hn : x.hx = false) (h : Q (.ref (σ.H.length + 1)) ⟨σ.loc, σ.H ++ [.dict std.fs, .inst 100 σ.H.length]⟩) : CallF x E 100 [] σ Q := by
  refine' CallF.make (fI := 83) hd2 hn ?hm ?hi ?hf ?ho ?hcd ?hb ?hl ?hc ?_ ?h1 ?h2 ?h3
  case hm => intro P; k_is
  case hi => intro P; k_is
  case hf => intro P; k_is
  case ho => intro P; k_is
  case hcd => intro P; k_is
  case hb => exact Binds.one7 (u2 := .int 36) (u3 := .int 1) (u4 := .int 26) (u5 := .int 38) (u6 := .int 700) (u7 := .int 72) (u8 := .int 128) (fun P s v1 X => binds_K X rfl (by k_is) rfl rfl rfl) (fun _ _ => ⟨_, rfl⟩) (fun _ _ => ⟨_, rfl⟩) (fun _ _ => ⟨_, rfl⟩) (fun _ _ => ⟨_, rfl⟩) (fun _ _ => ⟨_, rfl⟩) (fun _ _ => ⟨_, rfl⟩) (fun _ _ => ⟨_, rfl⟩)
  case hl => rfl
  case hc => rfl
  case h1 => rfl
  case h2 => rfl
  case h3 => rfl
  change TSs ⟨⟨_, _, _, _, _⟩, _, _, _, _⟩ _ _ (_ :: _) _
  repeat' k_caughtB
  iterate 7
    refine' TAsg.nfield ?a ?b ?c ?d ?e ?_ ?f
    case a => rfl
    case b => rfl
    case c => rfl
    case d => simp
    case e => intro P; k_is
    case f => rfl
    repeat' k_caughtB
  exact h
end
section
/-- the two objects of a deck: the map i and its list l -/
noncomputable def Deck (H : List O) (i l : Nat) : Prop := i ≠ l ∧ ∃ (xs : List Int) (m : Int), H[i]? = some (.map [("left", .ref l), ("mixed", .int m)]) ∧ H[l]? = some (.list (xs.map V.int))
/-- all that was there is there still, but for i and l -/
noncomputable def Keep (i l : Nat) (H H' : List O) : Prop := H.length ≤ H'.length ∧ ∀ j, j ≠ i → j ≠ l → j < H.length → H'[j]? = H[j]?
theorem Keep.trans {i l : Nat} {H H' H'' : List O} (h : Keep i l H H') (h' : Keep i l H' H'') : Keep i l H H'' := ⟨Nat.le_trans h.1 h'.1, fun j a b c => (h'.2 j a b (Nat.lt_of_lt_of_le c h.1)).trans (h.2 j a b c)⟩
theorem Keep.app {i l : Nat} {H : List O} (T : List O) : Keep i l H (H ++ T) := ⟨by simp, fun j _ _ c => List.getElem?_append_left c⟩
theorem Keep.set {i l k : Nat} {H : List O} (o : O) (h : k = i ∨ k = l) : Keep i l H (H.set k o) := ⟨by simp, fun j a b c => List.getElem?_set_ne (by rintro rfl; exact h.elim a b)⟩
theorem Keep.get {i l j : Nat} {H H' : List O} {o : O} (h : Keep i l H H') (a : j ≠ i) (b : j ≠ l) (e : H[j]? = some o) : H'[j]? = some o := by
  rw [h.2 j a b (List.getElem?_eq_some_iff.mp e).1]; exact e
theorem TE.mpop {x : Sx} {E : Nat → St → Prop} {σ : St} {o : Expr} {ap pos pp : Pos} {kk : Nat} {Q : V → St → Prop} (h : TE x E σ o fun ov σ₁ => ∃ i v vs, ov = .ref i ∧ σ₁.H[i]? = some (.list (v :: vs)) ∧ Q v ⟨σ₁.loc, σ₁.H.set i (.list vs)⟩)
    (hm : MethEq o "pop" ap pos [.Constant (.int 0) kk pp]) : TE x E σ (.Call (.Attribute o "pop" ap) [.Constant (.int 0) kk pp] [] pos) Q :=
  TE.methB PySem.F.slot_list_pop PySem.F.type_list_pop (h.mono fun ov σ₁ ⟨i, v, vs, e, hi, q⟩ => by
    subst e
    simp only [hi]
    exact TA.cons (TE.int (TA.nil (CallB.pop0 hi q))) (fun _ => rfl)) (fun _ => rfl) (fun _ _ => rfl) hm
theorem draw_call {d : Nat} {E} {i l : Nat} {k : Int} {H : List O} {Q : V → List O → Prop} (D : Deck H i l) (hk : 0 < k) (h : ∀ v H', 0 ≤ v → v < k → Deck H' i l → Keep i l H H' → Q (.int v) H') : TC d E 210 [.ref i, .int k] H Q := by
  obtain ⟨hil, xs, m, D1, D2⟩ := D
  have li : i < H.length := (List.getElem?_eq_some_iff.mp D1).1
  have ll : l < H.length := (List.getElem?_eq_some_iff.mp D2).1
  k_caught0
  repeat' (first | (with_reducible refine ifn (fun _ => ?_) (fun _ => ?_)) | k_caughtB)
  refine TItem.map D1 rfl ?_ (by intro _ _; rfl)
  repeat' (first | (with_reducible refine ifn (fun _ => ?_) (fun _ => ?_)) | k_caughtB)
  refine Op2.neL (ns := xs) (ms := []) (get_left D2 _) (get_at _ _ []) ?_
  repeat' (first | (with_reducible refine ifn (fun _ => ?_) (fun _ => ?_)) | k_caughtB)
  · rename_i hx
    refine TE.mpop ?_ (by intro _; rfl)
    repeat' (first | (with_reducible refine ifn (fun _ => ?_) (fun _ => ?_)) | k_caughtB)
    refine TItem.map (get_left D1 _) rfl ?_ (by intro _ _; rfl)
    cases xs with
    | nil => exact absurd rfl hx
    | cons v xs =>
    refine ⟨l, .int v, xs.map V.int, rfl, get_left D2 _, ?_⟩
    repeat' (first | (with_reducible refine ifn (fun _ => ?_) (fun _ => ?_)) | k_caughtB)
    have k1 : Keep i l H (H ++ [O.list []]) := Keep.app _
    have k2 : Keep i l (H ++ [O.list []]) ((H ++ [O.list []]).set l (.list (xs.map V.int))) := Keep.set _ (.inr rfl)
    exact h _ _ (Int.emod_nonneg _ (by (first | lia | omega))) (Int.emod_lt_of_pos _ hk) ⟨hil, xs, m, by rw [List.getElem?_set_ne (by (first | lia | omega))]; exact get_left D1 _, by rw [List.getElem?_set_self (by simp; (first | lia | omega))]⟩ (k1.trans k2)
  · rename_i hx
    refine TItem.map (get_left D1 _) rfl ?_ (by intro _ _; rfl)
    repeat' (first | (with_reducible refine ifn (fun _ => ?_) (fun _ => ?_)) | k_caughtB)
    refine TAsg.sub ?_
    repeat' (first | (with_reducible refine ifn (fun _ => ?_) (fun _ => ?_)) | k_caughtB)
    refine TSet.map (get_left D1 _) (by simp [putV]) ?_
    repeat' (first | (with_reducible refine ifn (fun _ => ?_) (fun _ => ?_)) | k_caughtB)
    have l1 : i < (H ++ [O.list []]).length := by simp; (first | lia | omega)
    refine TItem.map (List.getElem?_set_self l1) rfl ?_ (by intro _ _; rfl)
    repeat' (first | (with_reducible refine ifn (fun _ => ?_) (fun _ => ?_)) | k_caughtB)
    refine h _ _ (Int.emod_nonneg _ (by (first | lia | omega))) (Int.emod_lt_of_pos _ hk) ⟨hil, xs, (m * 4801 + 97) % 1000003, List.getElem?_set_self l1, by dsimp only; rw [List.getElem?_set_ne (by (first | lia | omega))]; exact get_left D2 _⟩ ((Keep.app _).trans (Keep.set _ (.inl rfl)))
end
section
theorem deck_call {d : Nat} {E} {xs : List Int} {H : List O} {Q : V → List O → Prop} (hz : xs.length ≤ 1000) (h : ∀ H' i l, H.length ≤ i → H.length ≤ l → H <+: H' → Deck H' i l → Q (.ref i) H') : TC d E 203 [.gl xs] H Q := by
  k_caught0
  repeat' (first | (with_reducible refine TTests.nil ?_) | (with_reducible refine TE.cut ?_) | (with_reducible refine TOpt.none ?_) | (with_reducible refine TOpt.some ?_) | (with_reducible refine CallB.intI ?_) | k_caughtB)
  refine TE.compB (TIt.list ?_ (by intro _ _; rfl)) (by intro _ _; rfl) rfl rfl rfl rfl
  repeat' (first | (with_reducible refine TTests.nil ?_) | (with_reducible refine TE.cut ?_) | (with_reducible refine TOpt.none ?_) | (with_reducible refine TOpt.some ?_) | (with_reducible refine CallB.intI ?_) | k_caughtB)
  refine TCut.gl hz ?_ (by intro _ _; rfl) (by intro _ _; rfl)
  generalize hp : pickZ xs Option.none (some 24) = pk
  have hpk : pk.length ≤ 1000 := by
    rw [← hp]; unfold pickZ
    have h1 : ∀ a b, ((xs.drop a).take b).length ≤ xs.length := fun a b => by simp [List.length_take, List.length_drop]; (first | lia | omega)
    exact Nat.le_trans (h1 _ _) hz
  have len1 : ∀ a : O, (H ++ [a]).length = H.length + 1 := fun a => by simp
  refine ⟨_, _, rfl, get_at _ _ [], fun k σ => σ.H = H ++ [.list (pk.map V.int), .list (((pk.take k).map (fun a => a % 1000003)).map V.int)], by simp, fun k σ e => by rw [e]; exact get_at _ _ _, ?_, ?_⟩
  · rintro k ⟨loc, H'⟩ hk eH v hv
    dsimp only at eH
    subst eH
    obtain ⟨a, ha, rfl⟩ := get_map hv
    refine TAsg.forg (loc' := []) Has.nil ?_
    repeat' (first | (with_reducible refine TTests.nil ?_) | (with_reducible refine TE.cut ?_) | (with_reducible refine TOpt.none ?_) | (with_reducible refine TOpt.some ?_) | (with_reducible refine CallB.intI ?_) | k_caughtB)
    refine ⟨_, by dsimp only; rw [len1]; exact get_at1 _ _ _ _, ?_, ?_⟩
    · simp only [List.length_map, List.length_take]; (first | lia | omega)
    · dsimp only
      rw [len1, set_at1, take_succ ha, List.map_append, List.map_append]
      rfl
  · rintro ⟨loc, H'⟩ eH
    dsimp only at eH
    subst eH
    repeat' (first | (with_reducible refine TTests.nil ?_) | (with_reducible refine TE.cut ?_) | (with_reducible refine TOpt.none ?_) | (with_reducible refine TOpt.some ?_) | (with_reducible refine CallB.intI ?_) | k_caughtB)
    rw [len1]
    rw [List.length_map, List.take_length]
    refine TS.for_ (TIt.list ?_ (by intro _ _; rfl)) (by intro _ _; rfl)
    repeat' (first | (with_reducible refine TTests.nil ?_) | (with_reducible refine TE.cut ?_) | (with_reducible refine TOpt.none ?_) | (with_reducible refine TOpt.some ?_) | (with_reducible refine CallB.intI ?_) | k_caughtB)
    refine ⟨_, _, rfl, get_at1 _ _ _ _, fun k σ => σ.H = H ++ [.list (pk.map V.int), .list ((pk.map (fun a => a % 1000003)).map V.int)] ∧ ∃ m, Has σ.loc [("left", .ref (H.length + 1)), ("mixed", .int m)], ⟨rfl, _, by k_caughtNB⟩, fun k σ e => by rw [e.1]; exact get_at1 _ _ _ _, ?_, ?_⟩
    · rintro k ⟨loc, H'⟩ hk ⟨eH, m, hl⟩ v hv
      dsimp only at eH
      subst eH
      obtain ⟨a, ha, rfl⟩ := get_map hv
      refine TAsg.forg hl ?_
      repeat' (first | (with_reducible refine TTests.nil ?_) | (with_reducible refine TE.cut ?_) | (with_reducible refine TOpt.none ?_) | (with_reducible refine TOpt.some ?_) | (with_reducible refine CallB.intI ?_) | k_caughtB)
      exact ⟨_, by k_caughtNB⟩
    · rintro ⟨loc, H'⟩ ⟨eH, m, hl⟩
      dsimp only at eH
      subst eH
      refine TSs.forg hl ?_
      repeat' (first | (with_reducible refine TTests.nil ?_) | (with_reducible refine TE.cut ?_) | (with_reducible refine TOpt.none ?_) | (with_reducible refine TOpt.some ?_) | (with_reducible refine CallB.intI ?_) | k_caughtB)
      refine TE.dict (TPairs.cons ?_) rfl rfl (by simp) (by simp)
      repeat' (first | (with_reducible refine TTests.nil ?_) | (with_reducible refine TE.cut ?_) | (with_reducible refine TOpt.none ?_) | (with_reducible refine TOpt.some ?_) | (with_reducible refine CallB.intI ?_) | k_caughtB)
      refine TPairs.cons ?_
      repeat' (first | (with_reducible refine TTests.nil ?_) | (with_reducible refine TE.cut ?_) | (with_reducible refine TOpt.none ?_) | (with_reducible refine TOpt.some ?_) | (with_reducible refine CallB.intI ?_) | k_caughtB)
      refine TPairs.nil ?_
      refine ⟨by simp only [List.map_cons, List.map_nil]; decide, by simp, by simp, ?_⟩
      refine h _ _ (H.length + 1) ?_ (by (first | lia | omega)) ?_ ⟨?_, (pk.map (fun a => a % 1000003)), m, ?_, ?_⟩
      · simp
      · exact ⟨[.list (pk.map V.int), .list ((pk.map (fun a => a % 1000003)).map V.int), .map [("left", .ref (H.length + 1)), ("mixed", .int m)]], by simp⟩
      · simp
      · simp
      · simp
end
section
theorem Turner.tuple {f : Fx} (hh0 : f.x.hx = false) {tgt : Expr} {it a : Addr} {l : Nat} {vs : List V} {ρ : List Addr} (ha : ρ[l]? = some a) :
    Turner f tgt it [it] vs.length (fun H => H[l]? = some (.tuple vs)) (fun x E k σ Q => ∀ v, vs[k]? = some v → TAsg x E tgt v σ Q) ρ (fun k h => h.IsTupleIter it a k) where
  live := fun k h hS b hb => by rw [List.mem_singleton] at hb; subst hb; obtain ⟨o, ho, _⟩ := hS; exact ⟨o, ho⟩
  frame := fun k h h' hS hk => by
    obtain ⟨o, ho, hc, hd⟩ := hS
    exact ⟨o, hk it (by simp) o ho, hc, hd⟩
  step := fun f' sb E k σ ρ' h tk Q hlt hL hA kk R hS ap Qc Ec hq hE => by
    have ha' := pre_get kk ha
    obtain ⟨a', o, h1, h2, ⟨lv, n, ho, hr⟩⟩ := R.atObj hL
    rw [ha'] at h1
    obtain rfl := Option.some.inj h1
    subst ho
    have hv : vs[k]? = some vs[k] := by simp [hlt]
    obtain ⟨u, hu, ru⟩ := hr.get hv
    refine wpAny_pyNext_tuple_item hS ⟨_, h2, rfl, n, rfl⟩ (x := u) (by simpa using hu) fun h' hit' hs' => ?_
    refine letGo_tupleiter hit' ?_
    refine step_done (k := k + 1) (S := fun k h => h.IsTupleIter it a k) R ap (fun b o hb e => (hs'.2 b (fun q => hb (by simp [q]))).trans e) hit' (fun b hb => by rw [List.mem_singleton] at hb; subst hb; obtain ⟨o, ho, _⟩ := hit'; exact ⟨o, ho⟩) (hA _ hv _ _ _ rfl ru) hq hE
  done := fun f' sb σ ρ' h tk hL kk R hS ap Qc Ec hq => by
    have ha' := pre_get kk ha
    obtain ⟨a', o, h1, h2, ⟨lv, n, ho, hr⟩⟩ := R.atObj hL
    rw [ha'] at h1
    obtain rfl := Option.some.inj h1
    subst ho
    refine wpAny_pyNext_tuple_end (R.ok.hand (sb.hx.trans hh0)) hS ⟨_, h2, rfl, n, rfl⟩ (by simp [hr.length]) fun h' he' => hq h' tk (R.but ap fun b o hb e => he' b o (fun q => hb (by simp [q])) e)
  self := fun f' sb k h tk Q Ec hS hQ => wpAny_pyIter_tupleiter hS hQ
section
variable {x : Sx} {E : Nat → St → Prop} {σ : St}
theorem TIt.tuple {tgt iter : Expr} {R : RIt} (h : TE x E σ iter fun v σ₁ => ∃ l vs, v = .ref l ∧ σ₁.H[l]? = some (.tuple vs) ∧ R vs.length (fun H => H[l]? = some (.tuple vs)) (fun x E k σ Q => ∀ v, vs[k]? = some v → TAsg x E tgt v σ Q) σ₁)
    (hh0 : x.hx = false := by rfl) : TIt x E tgt σ iter R := fun f ρ h₀ tk ex R₀ Qc Ec hq hE => by
  refine (h f ρ ex) h₀ tk R₀ _ Ec ?_ hE
  rintro v v' σ₁ ρ₁ h₁ t₁ ⟨l, vs, rfl, hl, hR⟩ k₁ R₁ r₁
  obtain ⟨a, ha, rfl⟩ := r₁
  obtain ⟨a', o, g1, g2, ⟨lv, n, ho, hr⟩⟩ := R₁.atObj hl
  rw [ha] at g1
  obtain rfl := Option.some.inj g1
  subst ho
  refine wpAny_pyIter_tuple ⟨_, g2, rfl, n, rfl⟩ ?_
  exact hq _ _ _ σ₁ ρ₁ h₁.objs.size _ _ _ t₁ hR k₁ (Turner.tuple (by rw [ex]; exact hh0) ha) ⟨_, Heap.get?_push_size _ rfl, rfl, rfl⟩ (R₁.keeps fun _ _ e => Heap.get?_push_of_some _ e) hl R₁.apart1
end
end
section
/-- what worth is after k rows -/
noncomputable def fgp (o : Int) : Nat → Int
  | 0 => 99
  | 1 => if 48 ≤ o ∧ o < 58 then o - 48 + 26 else 99
  | 2 => if 65 ≤ o ∧ o < 91 then o - 65 else if 48 ≤ o ∧ o < 58 then o - 48 + 26 else 99
  | _ => if 97 ≤ o ∧ o < 123 then o - 97 else if 65 ≤ o ∧ o < 91 then o - 65 else if 48 ≤ o ∧ o < 58 then o - 48 + 26 else 99
theorem fgp_last (o : Int) : (∀ g, fgr o = some g → fgp o 3 = g) ∧ (fgr o = none → fgp o 3 = 99) := by
  unfold fgr fgp
  refine ⟨fun g h => ?_, fun h => ?_⟩
  all_goals (repeat' split at h)
  all_goals (first | cases h | skip)
  all_goals ((repeat' split) <;> (first | lia | omega))
theorem has3 {l : List (PySem.Str × V)} {a b : PySem.Str × V} {v v' : Int} (h : Has l [a, b, ("worth", .int v)]) (e : v = v') : Has l [a, b, ("worth", .int v')] := e ▸ h
theorem lfigure_call {d : Nat} {E} {i : Nat} {w : Pm} {o : Int} {H : List O} {Q : V → List O → Prop} (N : H[i]? = some (.map w.fs)) (ok : w.Ok) (h0 : (∀ g, fgr o = some g → w.base ≤ g) → ∀ T, Q .none (H ++ T)) (h1 : ∀ g, fgr o = some g → g < w.base → 0 ≤ g → g < 36 → ∀ T, Q (.int g) (H ++ T)) : TC d E 236 [.ref i, .int o] H Q := by
  obtain ⟨b2, l1, lm, m26, mb, sk, dm, fs⟩ := ok
  k_caught0
  repeat' (first | ((with_reducible refine' TB.cmp2 ?_ ?k1); (case k1 => rfl)) | k_caughtB)
  refine TS.for_ (TIt.tuple ?_) (by intro _ _; rfl)
  repeat' (first | ((with_reducible refine' TB.cmp2 ?_ ?k1); (case k1 => rfl)) | k_caughtB)
  let t1 : O := .tuple [.int 48, .int 10, .int 26]
  let t2 : O := .tuple [.int 65, .int 26, .int 0]
  let t3 : O := .tuple [.int 97, .int 26, .int 0]
  let tt : O := .tuple [.ref H.length, .ref (H ++ [t1]).length, .ref (H ++ [t1] ++ [t2]).length]
  refine ⟨(H ++ [t1] ++ [t2] ++ [t3]).length, [.ref H.length, .ref (H ++ [t1]).length, .ref (H ++ [t1] ++ [t2]).length], rfl, get_at _ tt [], fun k σ => σ.H = H ++ [t1] ++ [t2] ++ [t3] ++ [tt] ∧ Has σ.loc [("sign", .int o), ("w", .ref i), ("worth", .int (fgp o k))], ⟨rfl, by k_caughtNB⟩, fun k σ e => by rw [e.1]; exact get_at _ tt [], ?_, ?_⟩
  · rintro k ⟨loc, H'⟩ hk ⟨eH, hl⟩ v hv
    dsimp only at eH
    subst eH
    have : k = 0 ∨ k = 1 ∨ k = 2 := by simp at hk; (first | lia | omega)
    rcases this with rfl | rfl | rfl
    · cases hv
      refine TAsg.tupRef (get_left (get_left (get_left (get_at H t1 []) _) _) _) ?_ rfl (by intro _; rfl) (by intro _; rfl)
      refine TAsgs.forg hl ?_
      repeat' (first | ((with_reducible refine' TB.cmp2 ?_ ?k1); (case k1 => rfl)) | k_caughtB)
      all_goals (refine has3 (by k_caughtNB) ?_; show _ = fgp o 1; simp only [fgp]; (repeat' split) <;> (first | lia | omega))

    · cases hv
      refine TAsg.tupRef (get_left (get_left (get_at (H ++ [t1]) t2 []) _) _) ?_ rfl (by intro _; rfl) (by intro _; rfl)
      refine TAsgs.forg hl ?_
      repeat' (first | ((with_reducible refine' TB.cmp2 ?_ ?k1); (case k1 => rfl)) | k_caughtB)
      all_goals (refine has3 (by k_caughtNB) ?_; show _ = fgp o 2; simp only [fgp]; (repeat' split) <;> (first | lia | omega))

    · cases hv
      refine TAsg.tupRef (get_left (get_at (H ++ [t1] ++ [t2]) t3 []) _) ?_ rfl (by intro _; rfl) (by intro _; rfl)
      refine TAsgs.forg hl ?_
      repeat' (first | ((with_reducible refine' TB.cmp2 ?_ ?k1); (case k1 => rfl)) | k_caughtB)
      all_goals (refine has3 (by k_caughtNB) ?_; show _ = fgp o 3; simp only [fgp]; (repeat' split) <;> (first | lia | omega))

  · rintro ⟨loc, H'⟩ ⟨eH, hl⟩
    dsimp only at eH
    subst eH
    replace hl : Has loc [("sign", .int o), ("w", .ref i), ("worth", .int (fgp o 3))] := hl
    refine TSs.forg hl ?_
    have N' : (H ++ [t1] ++ [t2] ++ [t3] ++ [tt])[i]? = some (.map w.fs) := get_left (get_left (get_left (get_left N _) _) _) _
    have hT : H ++ [t1] ++ [t2] ++ [t3] ++ [tt] = H ++ [t1, t2, t3, tt] := by simp
    have f := fgp_last o
    repeat' (first | ((with_reducible refine' TB.cmp2 ?_ ?k1); (case k1 => rfl)) | k_caughtB)
    all_goals (show Q _ _; rw [hT])
    · rename_i z
      cases e : fgr o with
      | none => rw [f.2 e] at z; (first | lia | omega)
      | some g => rw [f.1 g e] at z ⊢; exact h1 g e z (fgr_bounds e).1 (fgr_bounds e).2 _
    · rename_i z
      refine h0 (fun g e => ?_) _
      rw [f.1 g e] at z; (first | lia | omega)
end
section
/-- the pairs (code, place) of a page with a code from first on, in order -/
noncomputable def IsPs (page : List Int) (first : Int) (ps : List Pr) : Prop := ps.Pairwise (fun a b => plt a b = true) ∧ ∀ q : Pr, q ∈ ps ↔ (0 ≤ q.2 ∧ page[q.2.toNat]? = some q.1 ∧ first ≤ q.1)
noncomputable def rest (ps : List Pr) (c i : Int) : List Pr := ps.filter fun q => !plt q (c, i)
theorem plt_iff {p q : Pr} : plt p q = true ↔ p.1 < q.1 ∨ (p.1 = q.1 ∧ p.2 < q.2) := by unfold plt; simp
theorem nplt_iff {p q : Pr} : plt p q = false ↔ q.1 < p.1 ∨ (p.1 = q.1 ∧ q.2 ≤ p.2) := by
  rw [← Bool.not_eq_true, plt_iff]; (first | lia | omega)
theorem rest_congr {ps : List Pr} {c i c' i' : Int} (h : ∀ q ∈ ps, plt q (c, i) = plt q (c', i')) : rest ps c i = rest ps c' i' :=
  List.filter_congr fun q hq => by rw [h q hq]
theorem bool_eq {a b : Bool} (h : a = true ↔ b = true) : a = b := by cases a <;> cases b <;> simp_all
section
variable {page : List Int} {first : Int} {ps : List Pr}
theorem IsPs.miss (h : IsPs page first ps) {c : Int} {i : Nat} {o : Int} (ho : page[i]? = some o) (hne : o ≠ c) : rest ps c i = rest ps c ((i + 1 : Nat) : Int) :=
  rest_congr fun q hq => bool_eq (by
    obtain ⟨h1, h2, h3⟩ := (h.2 q).mp hq
    rw [plt_iff, plt_iff]
    dsimp only
    have : ¬ (q.1 = c ∧ q.2 = i) := fun ⟨e1, e2⟩ => by
      rw [e2] at h2
      rw [show ((i : Int).toNat) = i from rfl, ho] at h2
      exact hne ((Option.some.inj h2).trans e1)
    (first | lia | omega))
theorem IsPs.last (h : IsPs page first ps) {c : Int} : rest ps c page.length = rest ps (c + 1) 0 :=
  rest_congr fun q hq => bool_eq (by
    obtain ⟨h1, h2, h3⟩ := (h.2 q).mp hq
    have := (List.getElem?_eq_some_iff.mp h2).1
    rw [plt_iff, plt_iff]
    dsimp only
    (first | lia | omega))
theorem IsPs.jump (h : IsPs page first ps) {c M : Int} (hM : ∀ a ∈ page, c ≤ a → M ≤ a) (hc : c ≤ M) : rest ps c 0 = rest ps M 0 :=
  rest_congr fun q hq => bool_eq (by
    obtain ⟨h1, h2, h3⟩ := (h.2 q).mp hq
    have := hM q.1 (List.mem_of_getElem? h2)
    rw [plt_iff, plt_iff]
    dsimp only
    (first | lia | omega))
theorem IsPs.all (h : IsPs page first ps) : rest ps first 0 = ps := by
  unfold rest
  rw [List.filter_eq_self]
  intro q hq
  obtain ⟨h1, h2, h3⟩ := (h.2 q).mp hq
  rw [nplt_iff.mpr (by dsimp only; (first | lia | omega))]; rfl
theorem IsPs.none (h : IsPs page first ps) {c : Int} (hc : ∀ a ∈ page, a < c) : rest ps c 0 = [] := by
  unfold rest
  rw [List.filter_eq_nil_iff]
  intro q hq
  obtain ⟨h1, h2, h3⟩ := (h.2 q).mp hq
  have := hc q.1 (List.mem_of_getElem? h2)
  rw [plt_iff.mpr (by dsimp only; (first | lia | omega))]; decide
theorem filter_hit {ps : List Pr} (hs : ps.Pairwise fun a b => plt a b = true) {x : Pr} (hx : x ∈ ps) {P P' : Pr → Bool} (hP : ∀ q ∈ ps, P q = true ↔ (q = x ∨ P' q = true)) (hP' : ∀ q ∈ ps, P' q = true ↔ plt x q = true) : ps.filter P = x :: ps.filter P' := by
  induction ps with
  | nil => cases hx
  | cons a r ih =>
    obtain ⟨h1, h2⟩ := List.pairwise_cons.mp hs
    have irr : ∀ q : Pr, plt q q = false := fun q => nplt_iff.mpr (by (first | lia | omega))
    rcases List.mem_cons.mp hx with rfl | hx'
    · rw [List.filter_cons_of_pos ((hP x (List.mem_cons_self ..)).mpr (.inl rfl)), List.filter_cons_of_neg (by rw [hP' x (List.mem_cons_self ..), irr]; decide)]
      congr 1
      refine List.filter_congr fun q hq => bool_eq ?_
      rw [hP q (List.mem_cons_of_mem _ hq)]
      constructor
      · rintro (rfl | h)
        · exact (hP' q (List.mem_cons_of_mem _ hq)).mpr (h1 q hq)
        · exact h
      · exact .inr
    · have hax := h1 x hx'
      have na' : ¬ P' a = true := fun z => by
        have := (hP' a (List.mem_cons_self ..)).mp z
        rw [plt_iff] at this hax; (first | lia | omega)
      have na : ¬ P a = true := fun z => by
        rcases (hP a (List.mem_cons_self ..)).mp z with rfl | z
        · rw [irr] at hax; cases hax
        · exact na' z
      rw [List.filter_cons_of_neg na, List.filter_cons_of_neg na']
      exact ih h2 hx' (fun q hq => hP q (List.mem_cons_of_mem _ hq)) fun q hq => hP' q (List.mem_cons_of_mem _ hq)
theorem IsPs.hit (h : IsPs page first ps) {c : Int} {i : Nat} (ho : page[i]? = some c) (hc : first ≤ c) : rest ps c i = (c, (i : Int)) :: rest ps c ((i + 1 : Nat) : Int) := by
  refine filter_hit h.1 ((h.2 (c, (i : Int))).mpr ⟨by dsimp only; (first | lia | omega), ho, hc⟩) (fun q hq => ?_) fun q hq => ?_
  · simp only [Bool.not_eq_true', nplt_iff]
    rw [Prod.ext_iff]
    dsimp only
    (first | lia | omega)
  · simp only [Bool.not_eq_true', nplt_iff, plt_iff]
    skip
    (first | lia | omega)
end
/-- how many of the first i codes are at most c -/
noncomputable def cnt (page : List Int) (c : Int) (i : Nat) : Int := ((page.take i).filter fun x => decide (x ≤ c)).length
theorem cnt_le {page : List Int} {c o : Int} {i : Nat} (ho : page[i]? = some o) (h : o ≤ c) : cnt page c (i + 1) = cnt page c i + 1 := by
  unfold cnt
  rw [take_succ ho, List.filter_append, List.filter_cons_of_pos (by simpa using h)]
  simp
theorem cnt_gt {page : List Int} {c o : Int} {i : Nat} (ho : page[i]? = some o) (h : ¬ o ≤ c) : cnt page c (i + 1) = cnt page c i := by
  unfold cnt
  rw [take_succ ho, List.filter_append, List.filter_cons_of_neg (by simpa using h)]
  simp
/-- the digits of the pairs left -/
noncomputable def tail (w : Pm) (page : List Int) : List Pr → Int → Int → Int → Int → Bool → List Int
  | [], _, _, _, _, _ => []
  | q :: r, many, state, place, b, f =>
    nums w b 1 ((q.1 - state) * (many + 1) + cnt page q.1 q.2.toNat - place) ++ tail w page r (many + 1) q.1 (cnt page q.1 q.2.toNat + 1) (ad w ((q.1 - state) * (many + 1) + cnt page q.1 q.2.toNat - place) (many + 1) f) false
/-- the deltas of the pairs left are of a good size -/
noncomputable def Good (page : List Int) : List Pr → Int → Int → Int → Prop
  | [], _, _, _ => True
  | q :: r, many, state, place => (0 ≤ (q.1 - state) * (many + 1) + cnt page q.1 q.2.toNat - place ∧ (q.1 - state) * (many + 1) + cnt page q.1 q.2.toNat - place < 2 ^ 40) ∧ Good page r (many + 1) q.1 (cnt page q.1 q.2.toNat + 1)
noncomputable def plainOf (w : Pm) (page : List Int) : List Int := page.filter fun x => decide (x < w.first)
noncomputable def wr (w : Pm) (page : List Int) (ps : List Pr) : List Int := plainOf w page ++ (if plainOf w page = [] then [] else [45]) ++ tail w page ps (plainOf w page).length w.first 0 w.bias true
end
section
theorem num_len {w : Pm} (ok : w.Ok) {b : Int} : ∀ (m n : Nat) (k q : Int), 0 ≤ q → q < 2 ^ m → (num w b n k q).length ≤ m + 1
  | _, 0, _, _, _, _ => by simp [num]
  | m, n + 1, k, q, h0, h1 => by
    unfold num
    split
    · simp
    · rename_i h
      obtain ⟨a1, a2⟩ := num_next ok h
      have tb := thr_bounds ok k b
      cases m with
      | zero => have : q < 1 := h1; (first | lia | omega)
      | succ m =>
        rw [Int.pow_succ] at h1
        have := num_len ok (b := b) m n (k + 1) _ a1 (by (first | lia | omega))
        simp only [List.length_cons]
        (first | lia | omega)
theorem nums_len {w : Pm} (ok : w.Ok) {b k q : Int} (h0 : 0 ≤ q) (h1 : q < 2 ^ 40) : (nums w b k q).length ≤ 41 := num_len ok 40 _ k q h0 h1
theorem nums_ne {w : Pm} {b k q : Int} : nums w b k q ≠ [] := by
  unfold nums
  cases q.toNat with
  | zero => simp [num]
  | succ n => unfold num; split <;> simp
theorem num_in {w : Pm} (ok : w.Ok) {b : Int} : ∀ (n : Nat) (k q : Int), 0 ≤ q → q.toNat ≤ n → ∀ x ∈ num w b n k q, 48 ≤ x ∧ x < 123
  | 0, k, q, h0, h1, x, hx => by
    have : q = 0 := by (first | lia | omega)
    subst this
    simp only [num, List.mem_singleton] at hx
    subst hx
    decide
  | n + 1, k, q, h0, h1, x, hx => by
    have tb := thr_bounds ok k b
    have b2 := ok.b2
    unfold num at hx
    split at hx
    · rw [List.mem_singleton] at hx
      subst hx
      have := dg_bounds h0 (by (first | lia | omega))
      (first | lia | omega)
    · rename_i h
      obtain ⟨a1, a2⟩ := num_next ok h
      rcases List.mem_cons.mp hx with rfl | hx
      · have h3 := Int.emod_nonneg (q - thr w k b) (show w.base - thr w k b ≠ 0 by (first | lia | omega))
        have h4 := Int.emod_lt_of_pos (q - thr w k b) (show 0 < w.base - thr w k b by (first | lia | omega))
        have := dg_bounds (v := thr w k b + (q - thr w k b) % (w.base - thr w k b)) (by (first | lia | omega)) (by (first | lia | omega))
        (first | lia | omega)
      · exact num_in ok n _ _ a1 (by (first | lia | omega)) x hx
theorem nums_in {w : Pm} (ok : w.Ok) {b k q : Int} (h0 : 0 ≤ q) : ∀ x ∈ nums w b k q, 48 ≤ x ∧ x < 123 := num_in ok _ k q h0 (Nat.le_refl _)
theorem tail_in {w : Pm} {page : List Int} (ok : w.Ok) : ∀ (ps : List Pr) (many state place b : Int) (f : Bool), Good page ps many state place → ∀ x ∈ tail w page ps many state place b f, 48 ≤ x ∧ x < 123
  | [], _, _, _, _, _, _, x, hx => by cases hx
  | q :: r, many, state, place, b, f, ⟨g1, g2⟩, x, hx => by
    unfold tail at hx
    rcases List.mem_append.mp hx with hx | hx
    · exact nums_in ok g1.1 x hx
    · exact tail_in ok r _ _ _ _ _ g2 x hx
theorem wr_in {w : Pm} {page : List Int} {ps : List Pr} (ok : w.Ok) (hok : ∀ c ∈ page, okc c) (g : Good page ps (plainOf w page).length w.first 0) : ∀ x ∈ wr w page ps, 0 ≤ x ∧ x < 256 := fun x hx => by
  have fs := ok.fs
  unfold wr at hx
  rcases List.mem_append.mp hx with hx | hx
  · rcases List.mem_append.mp hx with hx | hx
    · have := List.mem_filter.mp hx
      have h1 := (hok x this.1).1
      have h2 : x < w.first := by simpa using this.2
      (first | lia | omega)
    · split at hx
      · cases hx
      · rw [List.mem_singleton] at hx; (first | lia | omega)
  · have := tail_in ok _ _ _ _ _ _ g x hx
    (first | lia | omega)
/-- how many codes are below c; how many of the first i are c -/
noncomputable def ltn (page : List Int) (c : Int) : Int := (page.filter fun x => decide (x < c)).length
noncomputable def eqn (page : List Int) (c : Int) (i : Nat) : Int := ((page.take i).filter fun x => decide (x = c)).length
theorem ltn_le (page : List Int) (c : Int) : 0 ≤ ltn page c ∧ ltn page c ≤ page.length := by
  unfold ltn
  have := List.length_filter_le (fun x => decide (x < c)) page
  (first | lia | omega)
theorem ltn_eqn (page : List Int) (c : Int) : ltn page (c + 1) = ltn page c + eqn page c page.length := by
  unfold ltn eqn
  rw [List.take_length]
  induction page with
  | nil => rfl
  | cons a r ih =>
    simp only [List.filter_cons]
    by_cases h1 : a < c
    · rw [if_pos (by simp; (first | lia | omega)), if_pos (by simpa using h1), if_neg (by simp; (first | lia | omega))]; simp only [List.length_cons]; (first | lia | omega)
    · by_cases h2 : a = c
      · rw [if_pos (by simp; (first | lia | omega)), if_neg (by simpa using h1), if_pos (by simpa using h2)]; simp only [List.length_cons]; (first | lia | omega)
      · rw [if_neg (by simp; (first | lia | omega)), if_neg (by simpa using h1), if_neg (by simpa using h2)]; exact ih
theorem cnt_end (page : List Int) (c : Int) : cnt page c page.length = ltn page (c + 1) := by
  unfold cnt ltn
  rw [List.take_length]
  congr 2
  refine List.filter_congr fun x _ => ?_
  rw [decide_eq_decide]; (first | lia | omega)
theorem ltn_jump {page : List Int} {c M : Int} (hM : ∀ a ∈ page, c ≤ a → M ≤ a) (hc : c ≤ M) : ltn page M = ltn page c := by
  unfold ltn
  congr 2
  refine List.filter_congr fun x hx => ?_
  rw [decide_eq_decide]
  have := hM x hx
  (first | lia | omega)
theorem ltn_full {page : List Int} {c : Int} (h : ¬ ltn page c < page.length) : ∀ a ∈ page, a < c := by
  have e : (page.filter fun x => decide (x < c)).length = page.length := by
    have := List.length_filter_le (fun x => decide (x < c)) page
    unfold ltn at h
    (first | lia | omega)
  have := List.length_filter_eq_length_iff.mp e
  intro a ha
  simpa using this a ha
theorem ltn_some {page : List Int} {c : Int} (h : ltn page c < page.length) : ∃ a ∈ page, c ≤ a := by
  false_or_by_contra
  rename_i z
  have : (page.filter fun x => decide (x < c)) = page := List.filter_eq_self.mpr fun a ha => by
    simp only [decide_eq_true_eq]
    false_or_by_contra
    exact z ⟨a, ha, by (first | lia | omega)⟩
  unfold ltn at h
  rw [this] at h
  (first | lia | omega)
theorem eqn_hit {page : List Int} {c : Int} {i : Nat} (ho : page[i]? = some c) : eqn page c (i + 1) = eqn page c i + 1 := by
  unfold eqn
  rw [take_succ ho, List.filter_append, List.filter_cons_of_pos (by simp)]
  simp
theorem eqn_miss {page : List Int} {c o : Int} {i : Nat} (ho : page[i]? = some o) (h : o ≠ c) : eqn page c (i + 1) = eqn page c i := by
  unfold eqn
  rw [take_succ ho, List.filter_append, List.filter_cons_of_neg (by simpa using h)]
  simp
theorem eqn_zero (page : List Int) (c : Int) : eqn page c 0 = 0 := by simp [eqn]
theorem cnt_zero (page : List Int) (c : Int) : cnt page c 0 = 0 := by simp [cnt]
theorem eqn_pos {page : List Int} {c : Int} (h : c ∈ page) : 1 ≤ eqn page c page.length := by
  unfold eqn
  rw [List.take_length]
  have hm : c ∈ page.filter fun x => decide (x = c) := List.mem_filter.mpr ⟨h, by simp⟩
  have := List.length_pos_of_mem hm
  (first | lia | omega)
theorem eqn_le (page : List Int) (c : Int) (i : Nat) : 0 ≤ eqn page c i ∧ eqn page c i ≤ eqn page c page.length := by
  unfold eqn
  rw [List.take_length]
  have h1 : ((page.take i).filter fun x => decide (x = c)).length ≤ (page.filter fun x => decide (x = c)).length := ((List.take_sublist i page).filter _).length_le
  (first | lia | omega)
end
section
/-- a goal behind a name: what is taken apart then does not carry it -/
theorem opaq {G : Prop} (h : ∀ P : Prop, (G → P) → P) : G := h G id
section
variable {x : Sx} {E : Nat → St → Prop} {σ : St}
theorem TS.opq {s : Stmt} {Q : Fl → St → Prop} (h : ∀ Q' : Fl → St → Prop, (∀ fl σ, Q fl σ → Q' fl σ) → TS x E σ s Q') : TS x E σ s Q := h Q fun _ _ => id
theorem TB.opq {e : Expr} {s : List Stmt} {Q : Fl → St → Prop} {R : St → Prop} (h : ∀ (Q' : Fl → St → Prop) (R' : St → Prop), (∀ fl σ, Q fl σ → Q' fl σ) → (∀ σ, R σ → R' σ) → TB x E σ e fun b σ₁ => if b then TSs x E σ₁ s Q' else R' σ₁) : TB x E σ e fun b σ₁ => if b then TSs x E σ₁ s Q else R σ₁ := h Q R (fun _ _ => id) fun _ => id
theorem TAsg.opq {t : Expr} {v : V} {s : List Stmt} {Q : Fl → St → Prop} (h : ∀ Q' : Fl → St → Prop, (∀ fl σ, Q fl σ → Q' fl σ) → TAsg x E t v σ fun σ₁ => TSs x E σ₁ s Q') : TAsg x E t v σ fun σ₁ => TSs x E σ₁ s Q := h Q fun _ _ => id
theorem TAsgs.opq {t : List Expr} {v : List V} {s : List Stmt} {Q : Fl → St → Prop} (h : ∀ Q' : Fl → St → Prop, (∀ fl σ, Q fl σ → Q' fl σ) → TAsgs x E t v σ fun σ₁ => TSs x E σ₁ s Q') : TAsgs x E t v σ fun σ₁ => TSs x E σ₁ s Q := h Q fun _ _ => id
end
theorem TS.forg {x : Sx} {E : Nat → St → Prop} {e : Stmt} {Q : Fl → St → Prop} {loc loc' : List (PySem.Str × V)} {H : List O} (k : Has loc loc') (h : TS x E ⟨loc', H⟩ e Q) : TS x E ⟨loc, H⟩ e Q := fun f ρ ex hh tk R => (h f ρ ex) hh tk (R.forget k)
theorem TS.heap {x : Sx} {E : Nat → St → Prop} {e : Stmt} {Q : Fl → St → Prop} {loc : List (PySem.Str × V)} {H H' : List O} (k : H = H') (h : TS x E ⟨loc, H'⟩ e Q) : TS x E ⟨loc, H⟩ e Q := by subst k; exact h
theorem TSs.cut1 {x : Sx} {E : Nat → St → Prop} {σ : St} {a : Stmt} {r : List Stmt} {Q : Fl → St → Prop} (I : St → Prop) (h : TS x E σ a (fun fl σ' => match fl with | .next => I σ' | fl => Q fl σ')) (k : ∀ σ', I σ' → TSs x E σ' r Q) : TSs x E σ (a :: r) Q :=
  TSs.cons (h.mono fun fl σ' q => by cases fl <;> first | exact k _ q | exact q)
inductive EncW (H2 : List O) (t i wi : Nat) (w : Pm) (page : List Int) (ps : List Pr) (n : Nat) (σ : St) : Prop
  | mk (fs : List Int) (T : List O) (c delta b state place : Int) (h0 : σ.H = H2 ++ .list (fs.map V.int) :: T) (h1 : Has σ.loc [("text", .ref t), ("numbers", .ref i), ("wished", .ref wi), ("found", .ref H2.length), ("many_basic", .int (plainOf w page).length), ("done", .int (ltn page c)), ("code", .int c), ("delta", .int delta), ("bias", .int b)]) (h2 : w.first ≤ c) (h3 : c ≤ 1114112) (h4 : n = (page.length - ltn page c).toNat) (h5 : delta = (c - state) * (ltn page c + 1) - place) (h6 : 0 ≤ delta) (h7 : delta ≤ c * (page.length + 1)) (h8 : fs.length ≤ 1001 + 41 * (ltn page c).toNat) (h9 : fs ++ tail w page (rest ps c 0) (ltn page c) state place b (decide (ltn page c = (plainOf w page).length)) = wr w page ps) (h10 : (Good page (rest ps c 0) (ltn page c) state place → Good page ps (plainOf w page).length w.first 0)) (h11 : ((plainOf w page).length : Int) ≤ ltn page c)
inductive EncF (H2 : List O) (t i wi : Nat) (w : Pm) (page : List Int) (ps : List Pr) (M : Int) (k : Nat) (σ : St) : Prop
  | mk (fs : List Int) (T : List O) (delta b state place : Int) (h0 : σ.H = H2 ++ .list (fs.map V.int) :: T) (h1 : Has σ.loc [("text", .ref t), ("numbers", .ref i), ("wished", .ref wi), ("found", .ref H2.length), ("many_basic", .int (plainOf w page).length), ("done", .int (ltn page M + eqn page M k)), ("code", .int M), ("delta", .int delta), ("bias", .int b)]) (h2 : delta = (M - state) * (ltn page M + eqn page M k + 1) + cnt page M k - place) (h3 : 0 ≤ delta) (h4 : delta ≤ M * (page.length + 1) + k) (h5 : fs.length ≤ 1001 + 41 * (ltn page M + eqn page M k).toNat) (h6 : fs ++ tail w page (rest ps M k) (ltn page M + eqn page M k) state place b (decide (ltn page M + eqn page M k = (plainOf w page).length)) = wr w page ps) (h7 : (Good page (rest ps M k) (ltn page M + eqn page M k) state place → Good page ps (plainOf w page).length w.first 0))
theorem encode_call {d : Nat} {E} {t : Nat} {as : List V} {nv : V} {w : Pm} {page : List Int} {ps : List Pr} {H : List O} {Q : V → List O → Prop} (Nt : H[t]? = some (.list (page.map V.int))) (hA : (∃ i, as = [.ref t, .ref i] ∧ nv = .ref i ∧ Nums H i w) ∨ (as = [.ref t] ∧ nv = .none ∧ w = std)) (ok : w.Ok) (hz : page.length < 950) (hp : IsPs page w.first ps)
    (h : (∀ c ∈ page, okc c) → Good page ps (plainOf w page).length w.first 0 → ∀ T, Q (.bytes (wr w page ps)) (H ++ T)) (he : (∃ c ∈ page, ¬ okc c) → ∀ j T, Told (H ++ T) j "code" → E j (H ++ T)) : TC (d + 4) E 168 as H Q := by
  refine' TC.plain (binds := [("text", .ref t), ("numbers", nv), ("capitals", .none)]) ?ho ?hcd ?hb ?hl ?hc ?_ (fun _ _ _ _ _ _ _ e => by subst e; exact leaves_to rfl rfl rfl rfl rfl) ?h1 ?h2 ?h3
  case ho => intro P; k_is
  case hcd => intro P; k_is
  case hb =>
    rcases hA with ⟨i, rfl, rfl, N⟩ | ⟨rfl, rfl, _⟩
    · exact Binds.twoD (u' := .none) (fun P s v v' X => binds_K X rfl (by k_is) rfl rfl rfl) (fun _ _ => rfl)
    · exact Binds.oneDD (u' := .none) (u'' := .none) (fun P s v X => binds_K X rfl (by k_is) rfl rfl rfl) (fun _ _ => rfl) (fun _ _ => rfl)
  case hl => rfl
  case hc => rfl
  case h1 => rfl
  case h2 => rfl
  case h3 => rfl
  change TSs ⟨⟨_, _, _, _, _⟩, _, _, _, _⟩ _ _ (_ :: _) _
  repeat' (first | (with_reducible refine TE.and ?_) | (with_reducible refine TB.call ?_) | ((with_reducible refine' TGet.n_bias ?k0 ?_); (case k0 => k_caughtN0)) | ((with_reducible refine' TGet.n_first ?k0 ?_); (case k0 => k_caughtN0)) | (with_reducible refine Op2.isnot_none ?_) | ((with_reducible refine' TE.mapp ?k0 ?k1 ?k2 ?_ ?k4 ?k5 ?k6); (case k0 => rfl); (case k1 => rfl); (case k2 => exact ⟨_, by k_caughtN0⟩); (case k4 => intro _; rfl); (case k5 => intro _; rfl); (case k6 => rfl)) | ((with_reducible refine' TE.mext ?k0 ?k1 ?k2 ?_ ?k4 ?k5 ?k6); (case k0 => rfl); (case k1 => rfl); (case k2 => exact ⟨_, by k_caughtN0⟩); (case k4 => intro _; rfl); (case k5 => intro _; rfl); (case k6 => rfl)) | ((with_reducible refine' TE.m_adapted ?k0 ?k1 ?k2 ?_ ?k4 ?k5 ?k6 ?k7); (case k0 => rfl); (case k1 => rfl); (case k2 => k_caughtN0); (case k4 => intro _; rfl); (case k5 => intro _ _; rfl); (case k6 => intro _; rfl); (case k7 => rfl)) | ((with_reducible refine isCall ?_); (refine' CallF.of (Nat.lt_succ_self _) rfl (cased_call ?_))) | ((with_reducible refine isCall ?_); (refine' CallF.of (Nat.lt_succ_self _) rfl (basic_call ?k0 ?_); (case k0 => k_caughtN0))) | ((with_reducible refine isCall ?_); (refine' CallF.of (Nat.lt_succ_self _) rfl (adapted_call ?k0 ?k1 ?_ ?_ ?_); (case k0 => k_caughtN0); (case k1 => assumption))) | k_caughtB | ((with_reducible refine' TS.asgS3 ?_ ?k1 ?k2 ?k3 ?k4 ?k5 ?k6); (case k1 => intro _; rfl); (case k2 => intro _; rfl); (case k3 => intro _; rfl); (case k4 => intro _ _; rfl); (case k5 => intro env e; cases env; dsimp only at e; subst e; rfl); (case k6 => rfl)))
  refine CallF.of (Nat.lt_succ_self _) rfl (check_call Nt (fun hok => ?_) fun hbad j T hT => ?_)
  · refine TSs.cut1 (fun σ => ∃ T i, σ.H = H ++ T ∧ Nums (H ++ T) i w ∧ Has σ.loc [("text", .ref t), ("numbers", .ref i), ("capitals", .none)]) (TS.opq fun Q' hQ' => ?_) ?_
    · rcases hA with ⟨i, rfl, rfl, N⟩ | ⟨rfl, rfl, rfl⟩
      · repeat' (first | (with_reducible refine TE.and ?_) | (with_reducible refine TB.call ?_) | ((with_reducible refine' TGet.n_bias ?k0 ?_); (case k0 => k_caughtN0)) | ((with_reducible refine' TGet.n_first ?k0 ?_); (case k0 => k_caughtN0)) | (with_reducible refine Op2.isnot_none ?_) | ((with_reducible refine' TE.mapp ?k0 ?k1 ?k2 ?_ ?k4 ?k5 ?k6); (case k0 => rfl); (case k1 => rfl); (case k2 => exact ⟨_, by k_caughtN0⟩); (case k4 => intro _; rfl); (case k5 => intro _; rfl); (case k6 => rfl)) | ((with_reducible refine' TE.mext ?k0 ?k1 ?k2 ?_ ?k4 ?k5 ?k6); (case k0 => rfl); (case k1 => rfl); (case k2 => exact ⟨_, by k_caughtN0⟩); (case k4 => intro _; rfl); (case k5 => intro _; rfl); (case k6 => rfl)) | ((with_reducible refine' TE.m_adapted ?k0 ?k1 ?k2 ?_ ?k4 ?k5 ?k6 ?k7); (case k0 => rfl); (case k1 => rfl); (case k2 => k_caughtN0); (case k4 => intro _; rfl); (case k5 => intro _ _; rfl); (case k6 => intro _; rfl); (case k7 => rfl)) | ((with_reducible refine isCall ?_); (refine' CallF.of (Nat.lt_succ_self _) rfl (cased_call ?_))) | ((with_reducible refine isCall ?_); (refine' CallF.of (Nat.lt_succ_self _) rfl (basic_call ?k0 ?_); (case k0 => k_caughtN0))) | ((with_reducible refine isCall ?_); (refine' CallF.of (Nat.lt_succ_self _) rfl (adapted_call ?k0 ?k1 ?_ ?_ ?_); (case k0 => k_caughtN0); (case k1 => assumption))) | k_caughtB | ((with_reducible refine' TS.asgS3 ?_ ?k1 ?k2 ?k3 ?k4 ?k5 ?k6); (case k1 => intro _; rfl); (case k2 => intro _; rfl); (case k3 => intro _; rfl); (case k4 => intro _ _; rfl); (case k5 => intro env e; cases env; dsimp only at e; subst e; rfl); (case k6 => rfl)))
        exact hQ' .next _ ⟨[], i, by simp, by simpa using N, by k_caughtNB⟩
      · repeat' (first | (with_reducible refine TE.and ?_) | (with_reducible refine TB.call ?_) | ((with_reducible refine' TGet.n_bias ?k0 ?_); (case k0 => k_caughtN0)) | ((with_reducible refine' TGet.n_first ?k0 ?_); (case k0 => k_caughtN0)) | (with_reducible refine Op2.isnot_none ?_) | ((with_reducible refine' TE.mapp ?k0 ?k1 ?k2 ?_ ?k4 ?k5 ?k6); (case k0 => rfl); (case k1 => rfl); (case k2 => exact ⟨_, by k_caughtN0⟩); (case k4 => intro _; rfl); (case k5 => intro _; rfl); (case k6 => rfl)) | ((with_reducible refine' TE.mext ?k0 ?k1 ?k2 ?_ ?k4 ?k5 ?k6); (case k0 => rfl); (case k1 => rfl); (case k2 => exact ⟨_, by k_caughtN0⟩); (case k4 => intro _; rfl); (case k5 => intro _; rfl); (case k6 => rfl)) | ((with_reducible refine' TE.m_adapted ?k0 ?k1 ?k2 ?_ ?k4 ?k5 ?k6 ?k7); (case k0 => rfl); (case k1 => rfl); (case k2 => k_caughtN0); (case k4 => intro _; rfl); (case k5 => intro _ _; rfl); (case k6 => intro _; rfl); (case k7 => rfl)) | ((with_reducible refine isCall ?_); (refine' CallF.of (Nat.lt_succ_self _) rfl (cased_call ?_))) | ((with_reducible refine isCall ?_); (refine' CallF.of (Nat.lt_succ_self _) rfl (basic_call ?k0 ?_); (case k0 => k_caughtN0))) | ((with_reducible refine isCall ?_); (refine' CallF.of (Nat.lt_succ_self _) rfl (adapted_call ?k0 ?k1 ?_ ?_ ?_); (case k0 => k_caughtN0); (case k1 => assumption))) | k_caughtB | ((with_reducible refine' TS.asgS3 ?_ ?k1 ?k2 ?k3 ?k4 ?k5 ?k6); (case k1 => intro _; rfl); (case k2 => intro _; rfl); (case k3 => intro _; rfl); (case k4 => intro _ _; rfl); (case k5 => intro env e; cases env; dsimp only at e; subst e; rfl); (case k6 => rfl)))
        refine TE.call0 rfl (by intro P; k_is) (by intro P; k_is) (numbers0 (d := d + 2) ?_ rfl ?_) rfl
        · show d + 2 + 1 < d + 4
          (first | lia | omega)
        repeat' (first | (with_reducible refine TE.and ?_) | (with_reducible refine TB.call ?_) | ((with_reducible refine' TGet.n_bias ?k0 ?_); (case k0 => k_caughtN0)) | ((with_reducible refine' TGet.n_first ?k0 ?_); (case k0 => k_caughtN0)) | (with_reducible refine Op2.isnot_none ?_) | ((with_reducible refine' TE.mapp ?k0 ?k1 ?k2 ?_ ?k4 ?k5 ?k6); (case k0 => rfl); (case k1 => rfl); (case k2 => exact ⟨_, by k_caughtN0⟩); (case k4 => intro _; rfl); (case k5 => intro _; rfl); (case k6 => rfl)) | ((with_reducible refine' TE.mext ?k0 ?k1 ?k2 ?_ ?k4 ?k5 ?k6); (case k0 => rfl); (case k1 => rfl); (case k2 => exact ⟨_, by k_caughtN0⟩); (case k4 => intro _; rfl); (case k5 => intro _; rfl); (case k6 => rfl)) | ((with_reducible refine' TE.m_adapted ?k0 ?k1 ?k2 ?_ ?k4 ?k5 ?k6 ?k7); (case k0 => rfl); (case k1 => rfl); (case k2 => k_caughtN0); (case k4 => intro _; rfl); (case k5 => intro _ _; rfl); (case k6 => intro _; rfl); (case k7 => rfl)) | ((with_reducible refine isCall ?_); (refine' CallF.of (Nat.lt_succ_self _) rfl (cased_call ?_))) | ((with_reducible refine isCall ?_); (refine' CallF.of (Nat.lt_succ_self _) rfl (basic_call ?k0 ?_); (case k0 => k_caughtN0))) | ((with_reducible refine isCall ?_); (refine' CallF.of (Nat.lt_succ_self _) rfl (adapted_call ?k0 ?k1 ?_ ?_ ?_); (case k0 => k_caughtN0); (case k1 => assumption))) | k_caughtB | ((with_reducible refine' TS.asgS3 ?_ ?k1 ?k2 ?k3 ?k4 ?k5 ?k6); (case k1 => intro _; rfl); (case k2 => intro _; rfl); (case k3 => intro _; rfl); (case k4 => intro _ _; rfl); (case k5 => intro env e; cases env; dsimp only at e; subst e; rfl); (case k6 => rfl)))
        exact hQ' .next _ ⟨_, H.length + 1, rfl, ⟨H.length, by simp, by simp⟩, by k_caughtNB⟩
    clear hA
    rintro ⟨loc, H'⟩ ⟨T0, i, eH, N, hl⟩
    dsimp only at eH
    subst eH
    refine TSs.forg hl ?_
    obtain ⟨H1, eH1⟩ : ∃ H1, H1 = H ++ T0 := ⟨_, rfl⟩
    rw [← eH1] at N ⊢
    have Nt1 : H1[t]? = some (.list (page.map V.int)) := by rw [eH1]; exact get_left Nt _
    repeat' (first | (with_reducible refine TE.and ?_) | (with_reducible refine TB.call ?_) | ((with_reducible refine' TGet.n_bias ?k0 ?_); (case k0 => k_caughtN0)) | ((with_reducible refine' TGet.n_first ?k0 ?_); (case k0 => k_caughtN0)) | (with_reducible refine Op2.isnot_none ?_) | ((with_reducible refine' TE.mapp ?k0 ?k1 ?k2 ?_ ?k4 ?k5 ?k6); (case k0 => rfl); (case k1 => rfl); (case k2 => exact ⟨_, by k_caughtN0⟩); (case k4 => intro _; rfl); (case k5 => intro _; rfl); (case k6 => rfl)) | ((with_reducible refine' TE.mext ?k0 ?k1 ?k2 ?_ ?k4 ?k5 ?k6); (case k0 => rfl); (case k1 => rfl); (case k2 => exact ⟨_, by k_caughtN0⟩); (case k4 => intro _; rfl); (case k5 => intro _; rfl); (case k6 => rfl)) | ((with_reducible refine' TE.m_adapted ?k0 ?k1 ?k2 ?_ ?k4 ?k5 ?k6 ?k7); (case k0 => rfl); (case k1 => rfl); (case k2 => k_caughtN0); (case k4 => intro _; rfl); (case k5 => intro _ _; rfl); (case k6 => intro _; rfl); (case k7 => rfl)) | ((with_reducible refine isCall ?_); (refine' CallF.of (Nat.lt_succ_self _) rfl (cased_call ?_))) | ((with_reducible refine isCall ?_); (refine' CallF.of (Nat.lt_succ_self _) rfl (basic_call ?k0 ?_); (case k0 => k_caughtN0))) | ((with_reducible refine isCall ?_); (refine' CallF.of (Nat.lt_succ_self _) rfl (adapted_call ?k0 ?k1 ?_ ?_ ?_); (case k0 => k_caughtN0); (case k1 => assumption))) | k_caughtB | ((with_reducible refine' TS.asgS3 ?_ ?k1 ?k2 ?k3 ?k4 ?k5 ?k6); (case k1 => intro _; rfl); (case k2 => intro _; rfl); (case k3 => intro _; rfl); (case k4 => intro _ _; rfl); (case k5 => intro env e; cases env; dsimp only at e; subst e; rfl); (case k6 => rfl)))
    refine Op2.mulN (vs := [.none]) (get_at _ _ []) (by simp) (by (first | lia | omega)) (by simp; (first | lia | omega)) (by simp; (first | lia | omega)) ?_
    repeat' (first | (with_reducible refine TE.and ?_) | (with_reducible refine TB.call ?_) | ((with_reducible refine' TGet.n_bias ?k0 ?_); (case k0 => k_caughtN0)) | ((with_reducible refine' TGet.n_first ?k0 ?_); (case k0 => k_caughtN0)) | (with_reducible refine Op2.isnot_none ?_) | ((with_reducible refine' TE.mapp ?k0 ?k1 ?k2 ?_ ?k4 ?k5 ?k6); (case k0 => rfl); (case k1 => rfl); (case k2 => exact ⟨_, by k_caughtN0⟩); (case k4 => intro _; rfl); (case k5 => intro _; rfl); (case k6 => rfl)) | ((with_reducible refine' TE.mext ?k0 ?k1 ?k2 ?_ ?k4 ?k5 ?k6); (case k0 => rfl); (case k1 => rfl); (case k2 => exact ⟨_, by k_caughtN0⟩); (case k4 => intro _; rfl); (case k5 => intro _; rfl); (case k6 => rfl)) | ((with_reducible refine' TE.m_adapted ?k0 ?k1 ?k2 ?_ ?k4 ?k5 ?k6 ?k7); (case k0 => rfl); (case k1 => rfl); (case k2 => k_caughtN0); (case k4 => intro _; rfl); (case k5 => intro _ _; rfl); (case k6 => intro _; rfl); (case k7 => rfl)) | ((with_reducible refine isCall ?_); (refine' CallF.of (Nat.lt_succ_self _) rfl (cased_call ?_))) | ((with_reducible refine isCall ?_); (refine' CallF.of (Nat.lt_succ_self _) rfl (basic_call ?k0 ?_); (case k0 => k_caughtN0))) | ((with_reducible refine isCall ?_); (refine' CallF.of (Nat.lt_succ_self _) rfl (adapted_call ?k0 ?k1 ?_ ?_ ?_); (case k0 => k_caughtN0); (case k1 => assumption))) | k_caughtB | ((with_reducible refine' TS.asgS3 ?_ ?k1 ?k2 ?k3 ?k4 ?k5 ?k6); (case k1 => intro _; rfl); (case k2 => intro _; rfl); (case k3 => intro _; rfl); (case k4 => intro _ _; rfl); (case k5 => intro env e; cases env; dsimp only at e; subst e; rfl); (case k6 => rfl)))
    refine TS.heap (H' := (H1 ++ [O.list [V.none]] ++ [O.list (List.replicate page.length V.none)]) ++ [O.list []]) (by simp) ?_
    refine TS.forg (loc' := [("text", .ref t), ("numbers", .ref i), ("wished", .ref (H1 ++ [O.list [V.none]]).length), ("found", .ref (H1 ++ [O.list [V.none]] ++ [O.list (List.replicate page.length V.none)]).length)]) (by
      refine .cons (.cons (.cons (.cons .nil ?_) ?_) ?_) ?_
      all_goals first | rfl | (show some (V.ref _) = some (V.ref _); congr 2; simp)) ?_
    obtain ⟨H2, eH2⟩ : ∃ H2, H2 = H1 ++ [O.list [V.none]] ++ [O.list (List.replicate page.length V.none)] := ⟨_, rfl⟩
    obtain ⟨wi, ewi⟩ : ∃ wi, wi = (H1 ++ [O.list [V.none]]).length := ⟨_, rfl⟩
    have N2 : Nums H2 i w := by rw [eH2]; exact (N.mono _).mono _
    have Nt2 : H2[t]? = some (.list (page.map V.int)) := by rw [eH2]; exact get_left (get_left Nt1 _) _
    have Nw2 : H2[wi]? = some (.list (List.replicate page.length V.none)) := by rw [eH2, ewi]; exact get_at _ _ []
    have hT2 : ∃ T, H2 = H ++ T := ⟨T0 ++ [O.list [V.none], O.list (List.replicate page.length V.none)], by rw [eH2, eH1]; simp⟩
    rw [← eH2, ← ewi]
    clear ewi eH2 eH1
    refine TS.for_ (TIt.enum rfl (by intro P; k_is) rfl (by decide) ?_ (by intro _; rfl) (by intro _; rfl) (by intro _; rfl) rfl) (by intro _ _; rfl)
    repeat' (first | (with_reducible refine TE.and ?_) | (with_reducible refine TB.call ?_) | ((with_reducible refine' TGet.n_bias ?k0 ?_); (case k0 => k_caughtN0)) | ((with_reducible refine' TGet.n_first ?k0 ?_); (case k0 => k_caughtN0)) | (with_reducible refine Op2.isnot_none ?_) | ((with_reducible refine' TE.mapp ?k0 ?k1 ?k2 ?_ ?k4 ?k5 ?k6); (case k0 => rfl); (case k1 => rfl); (case k2 => exact ⟨_, by k_caughtN0⟩); (case k4 => intro _; rfl); (case k5 => intro _; rfl); (case k6 => rfl)) | ((with_reducible refine' TE.mext ?k0 ?k1 ?k2 ?_ ?k4 ?k5 ?k6); (case k0 => rfl); (case k1 => rfl); (case k2 => exact ⟨_, by k_caughtN0⟩); (case k4 => intro _; rfl); (case k5 => intro _; rfl); (case k6 => rfl)) | ((with_reducible refine' TE.m_adapted ?k0 ?k1 ?k2 ?_ ?k4 ?k5 ?k6 ?k7); (case k0 => rfl); (case k1 => rfl); (case k2 => k_caughtN0); (case k4 => intro _; rfl); (case k5 => intro _ _; rfl); (case k6 => intro _; rfl); (case k7 => rfl)) | ((with_reducible refine isCall ?_); (refine' CallF.of (Nat.lt_succ_self _) rfl (cased_call ?_))) | ((with_reducible refine isCall ?_); (refine' CallF.of (Nat.lt_succ_self _) rfl (basic_call ?k0 ?_); (case k0 => k_caughtN0))) | ((with_reducible refine isCall ?_); (refine' CallF.of (Nat.lt_succ_self _) rfl (adapted_call ?k0 ?k1 ?_ ?_ ?_); (case k0 => k_caughtN0); (case k1 => assumption))) | k_caughtB | ((with_reducible refine' TS.asgS3 ?_ ?k1 ?k2 ?k3 ?k4 ?k5 ?k6); (case k1 => intro _; rfl); (case k2 => intro _; rfl); (case k3 => intro _; rfl); (case k4 => intro _ _; rfl); (case k5 => intro env e; cases env; dsimp only at e; subst e; rfl); (case k6 => rfl)))
    refine .inl ⟨t, _, rfl, get_left Nt2 _, fun k σ => σ.H = H2 ++ [.list (((page.take k).filter (fun x => decide (x < w.first))).map V.int)] ∧ Has σ.loc [("text", .ref t), ("numbers", .ref i), ("wished", .ref wi), ("found", .ref H2.length)], ⟨by simp, by k_caughtNB⟩, fun k σ e => by rw [e.1]; exact get_left Nt2 _, ?_, ?_⟩
    · rintro k ⟨loc, H'⟩ hk ⟨eH, hl⟩ v hv
      dsimp only at eH
      subst eH
      obtain ⟨a, ha, rfl⟩ := get_map hv
      have hk' : k < page.length := by simpa using hk
      refine TAsgs.forg hl ?_
      refine TAsgs.opq fun Q' hQ' => ?_
      repeat' (first | (with_reducible refine TE.and ?_) | (with_reducible refine TB.call ?_) | ((with_reducible refine' TGet.n_bias ?k0 ?_); (case k0 => k_caughtN0)) | ((with_reducible refine' TGet.n_first ?k0 ?_); (case k0 => k_caughtN0)) | (with_reducible refine Op2.isnot_none ?_) | ((with_reducible refine' TE.mapp ?k0 ?k1 ?k2 ?_ ?k4 ?k5 ?k6); (case k0 => rfl); (case k1 => rfl); (case k2 => exact ⟨_, by k_caughtN0⟩); (case k4 => intro _; rfl); (case k5 => intro _; rfl); (case k6 => rfl)) | ((with_reducible refine' TE.mext ?k0 ?k1 ?k2 ?_ ?k4 ?k5 ?k6); (case k0 => rfl); (case k1 => rfl); (case k2 => exact ⟨_, by k_caughtN0⟩); (case k4 => intro _; rfl); (case k5 => intro _; rfl); (case k6 => rfl)) | ((with_reducible refine' TE.m_adapted ?k0 ?k1 ?k2 ?_ ?k4 ?k5 ?k6 ?k7); (case k0 => rfl); (case k1 => rfl); (case k2 => k_caughtN0); (case k4 => intro _; rfl); (case k5 => intro _ _; rfl); (case k6 => intro _; rfl); (case k7 => rfl)) | ((with_reducible refine isCall ?_); (refine' CallF.of (Nat.lt_succ_self _) rfl (cased_call ?_))) | ((with_reducible refine isCall ?_); (refine' CallF.of (Nat.lt_succ_self _) rfl (basic_call ?k0 ?_); (case k0 => k_caughtN0))) | ((with_reducible refine isCall ?_); (refine' CallF.of (Nat.lt_succ_self _) rfl (adapted_call ?k0 ?k1 ?_ ?_ ?_); (case k0 => k_caughtN0); (case k1 => assumption))) | k_caughtB | ((with_reducible refine' TS.asgS3 ?_ ?k1 ?k2 ?k3 ?k4 ?k5 ?k6); (case k1 => intro _; rfl); (case k2 => intro _; rfl); (case k3 => intro _; rfl); (case k4 => intro _ _; rfl); (case k5 => intro env e; cases env; dsimp only at e; subst e; rfl); (case k6 => rfl)))
      · refine TItem.list (get_left Nw2 _) (by (first | lia | omega)) (v := .none) (by rw [show ((k : Int).toNat) = k from rfl, List.getElem?_replicate, if_pos hk']) ?_ (by intro _ _; rfl)
        repeat' (first | (with_reducible refine TE.and ?_) | (with_reducible refine TB.call ?_) | ((with_reducible refine' TGet.n_bias ?k0 ?_); (case k0 => k_caughtN0)) | ((with_reducible refine' TGet.n_first ?k0 ?_); (case k0 => k_caughtN0)) | (with_reducible refine Op2.isnot_none ?_) | ((with_reducible refine' TE.mapp ?k0 ?k1 ?k2 ?_ ?k4 ?k5 ?k6); (case k0 => rfl); (case k1 => rfl); (case k2 => exact ⟨_, by k_caughtN0⟩); (case k4 => intro _; rfl); (case k5 => intro _; rfl); (case k6 => rfl)) | ((with_reducible refine' TE.mext ?k0 ?k1 ?k2 ?_ ?k4 ?k5 ?k6); (case k0 => rfl); (case k1 => rfl); (case k2 => exact ⟨_, by k_caughtN0⟩); (case k4 => intro _; rfl); (case k5 => intro _; rfl); (case k6 => rfl)) | ((with_reducible refine' TE.m_adapted ?k0 ?k1 ?k2 ?_ ?k4 ?k5 ?k6 ?k7); (case k0 => rfl); (case k1 => rfl); (case k2 => k_caughtN0); (case k4 => intro _; rfl); (case k5 => intro _ _; rfl); (case k6 => intro _; rfl); (case k7 => rfl)) | ((with_reducible refine isCall ?_); (refine' CallF.of (Nat.lt_succ_self _) rfl (cased_call ?_))) | ((with_reducible refine isCall ?_); (refine' CallF.of (Nat.lt_succ_self _) rfl (basic_call ?k0 ?_); (case k0 => k_caughtN0))) | ((with_reducible refine isCall ?_); (refine' CallF.of (Nat.lt_succ_self _) rfl (adapted_call ?k0 ?k1 ?_ ?_ ?_); (case k0 => k_caughtN0); (case k1 => assumption))) | k_caughtB | ((with_reducible refine' TS.asgS3 ?_ ?k1 ?k2 ?k3 ?k4 ?k5 ?k6); (case k1 => intro _; rfl); (case k2 => intro _; rfl); (case k3 => intro _; rfl); (case k4 => intro _ _; rfl); (case k5 => intro env e; cases env; dsimp only at e; subst e; rfl); (case k6 => rfl)))
        refine ⟨_, get_at _ _ [], ?_, ?_⟩
        · have h1 := List.length_filter_le (fun x => decide (x < w.first)) (page.take k)
          have h2 : (page.take k).length ≤ page.length := by rw [List.length_take]; (first | lia | omega)
          simp only [List.length_map]
          (first | lia | omega)
        · repeat' (first | (with_reducible refine TE.and ?_) | (with_reducible refine TB.call ?_) | ((with_reducible refine' TGet.n_bias ?k0 ?_); (case k0 => k_caughtN0)) | ((with_reducible refine' TGet.n_first ?k0 ?_); (case k0 => k_caughtN0)) | (with_reducible refine Op2.isnot_none ?_) | ((with_reducible refine' TE.mapp ?k0 ?k1 ?k2 ?_ ?k4 ?k5 ?k6); (case k0 => rfl); (case k1 => rfl); (case k2 => exact ⟨_, by k_caughtN0⟩); (case k4 => intro _; rfl); (case k5 => intro _; rfl); (case k6 => rfl)) | ((with_reducible refine' TE.mext ?k0 ?k1 ?k2 ?_ ?k4 ?k5 ?k6); (case k0 => rfl); (case k1 => rfl); (case k2 => exact ⟨_, by k_caughtN0⟩); (case k4 => intro _; rfl); (case k5 => intro _; rfl); (case k6 => rfl)) | ((with_reducible refine' TE.m_adapted ?k0 ?k1 ?k2 ?_ ?k4 ?k5 ?k6 ?k7); (case k0 => rfl); (case k1 => rfl); (case k2 => k_caughtN0); (case k4 => intro _; rfl); (case k5 => intro _ _; rfl); (case k6 => intro _; rfl); (case k7 => rfl)) | ((with_reducible refine isCall ?_); (refine' CallF.of (Nat.lt_succ_self _) rfl (cased_call ?_))) | ((with_reducible refine isCall ?_); (refine' CallF.of (Nat.lt_succ_self _) rfl (basic_call ?k0 ?_); (case k0 => k_caughtN0))) | ((with_reducible refine isCall ?_); (refine' CallF.of (Nat.lt_succ_self _) rfl (adapted_call ?k0 ?k1 ?_ ?_ ?_); (case k0 => k_caughtN0); (case k1 => assumption))) | k_caughtB | ((with_reducible refine' TS.asgS3 ?_ ?k1 ?k2 ?k3 ?k4 ?k5 ?k6); (case k1 => intro _; rfl); (case k2 => intro _; rfl); (case k3 => intro _; rfl); (case k4 => intro _ _; rfl); (case k5 => intro env e; cases env; dsimp only at e; subst e; rfl); (case k6 => rfl)))
          refine hQ' .next _ ⟨?_, by k_caughtNB⟩
          dsimp only
          rw [set_at, take_succ ha, List.filter_append, List.filter_cons_of_pos (by simpa), List.map_append]
          rfl
      · refine hQ' .next _ ⟨?_, by k_caughtNB⟩
        dsimp only
        rw [take_succ ha, List.filter_append, List.filter_cons_of_neg (by simp only [decide_eq_true_eq]; assumption)]
        simp
    · rintro ⟨loc, H'⟩ ⟨eH, hl⟩
      dsimp only at eH
      subst eH
      rw [List.length_map, List.take_length]
      refine TSs.forg hl ?_
      have hpl : (plainOf w page).length ≤ page.length := List.length_filter_le _ _
      show TSs _ _ ⟨_, H2 ++ [O.list ((plainOf w page).map V.int)]⟩ _ _
      refine TSs.cut1 (fun σ => σ.H = H2 ++ [O.list ((plainOf w page).map V.int)] ∧ Has σ.loc [("text", .ref t), ("numbers", .ref i), ("wished", .ref wi), ("found", .ref H2.length), ("many_basic", .int (plainOf w page).length)]) (TS.opq fun Q' hQ' => ?_) ?_
      · repeat' (first | (with_reducible refine TE.and ?_) | (with_reducible refine TB.call ?_) | ((with_reducible refine' TGet.n_bias ?k0 ?_); (case k0 => k_caughtN0)) | ((with_reducible refine' TGet.n_first ?k0 ?_); (case k0 => k_caughtN0)) | (with_reducible refine Op2.isnot_none ?_) | ((with_reducible refine' TE.mapp ?k0 ?k1 ?k2 ?_ ?k4 ?k5 ?k6); (case k0 => rfl); (case k1 => rfl); (case k2 => exact ⟨_, by k_caughtN0⟩); (case k4 => intro _; rfl); (case k5 => intro _; rfl); (case k6 => rfl)) | ((with_reducible refine' TE.mext ?k0 ?k1 ?k2 ?_ ?k4 ?k5 ?k6); (case k0 => rfl); (case k1 => rfl); (case k2 => exact ⟨_, by k_caughtN0⟩); (case k4 => intro _; rfl); (case k5 => intro _; rfl); (case k6 => rfl)) | ((with_reducible refine' TE.m_adapted ?k0 ?k1 ?k2 ?_ ?k4 ?k5 ?k6 ?k7); (case k0 => rfl); (case k1 => rfl); (case k2 => k_caughtN0); (case k4 => intro _; rfl); (case k5 => intro _ _; rfl); (case k6 => intro _; rfl); (case k7 => rfl)) | ((with_reducible refine isCall ?_); (refine' CallF.of (Nat.lt_succ_self _) rfl (cased_call ?_))) | ((with_reducible refine isCall ?_); (refine' CallF.of (Nat.lt_succ_self _) rfl (basic_call ?k0 ?_); (case k0 => k_caughtN0))) | ((with_reducible refine isCall ?_); (refine' CallF.of (Nat.lt_succ_self _) rfl (adapted_call ?k0 ?k1 ?_ ?_ ?_); (case k0 => k_caughtN0); (case k1 => assumption))) | k_caughtB | ((with_reducible refine' TS.asgS3 ?_ ?k1 ?k2 ?k3 ?k4 ?k5 ?k6); (case k1 => intro _; rfl); (case k2 => intro _; rfl); (case k3 => intro _; rfl); (case k4 => intro _ _; rfl); (case k5 => intro env e; cases env; dsimp only at e; subst e; rfl); (case k6 => rfl)))
        refine hQ' .next _ ⟨rfl, ?_⟩
        refine .cons (.cons (.cons (.cons (.cons .nil ?_) ?_) ?_) ?_) ?_
        all_goals first | rfl | (show some (V.int _) = some (V.int _); congr 2; simp)
      rintro ⟨loc, H'⟩ ⟨eH, hl⟩
      dsimp only at eH
      subst eH
      refine TSs.forg hl ?_
      refine TSs.cut1 (fun σ => σ.H = H2 ++ [O.list ((plainOf w page).map V.int)] ∧ Has σ.loc [("text", .ref t), ("numbers", .ref i), ("wished", .ref wi), ("found", .ref H2.length), ("many_basic", .int (plainOf w page).length), ("done", .int (plainOf w page).length)]) (TS.opq fun Q' hQ' => ?_) ?_
      · repeat' (first | (with_reducible refine TE.and ?_) | (with_reducible refine TB.call ?_) | ((with_reducible refine' TGet.n_bias ?k0 ?_); (case k0 => k_caughtN0)) | ((with_reducible refine' TGet.n_first ?k0 ?_); (case k0 => k_caughtN0)) | (with_reducible refine Op2.isnot_none ?_) | ((with_reducible refine' TE.mapp ?k0 ?k1 ?k2 ?_ ?k4 ?k5 ?k6); (case k0 => rfl); (case k1 => rfl); (case k2 => exact ⟨_, by k_caughtN0⟩); (case k4 => intro _; rfl); (case k5 => intro _; rfl); (case k6 => rfl)) | ((with_reducible refine' TE.mext ?k0 ?k1 ?k2 ?_ ?k4 ?k5 ?k6); (case k0 => rfl); (case k1 => rfl); (case k2 => exact ⟨_, by k_caughtN0⟩); (case k4 => intro _; rfl); (case k5 => intro _; rfl); (case k6 => rfl)) | ((with_reducible refine' TE.m_adapted ?k0 ?k1 ?k2 ?_ ?k4 ?k5 ?k6 ?k7); (case k0 => rfl); (case k1 => rfl); (case k2 => k_caughtN0); (case k4 => intro _; rfl); (case k5 => intro _ _; rfl); (case k6 => intro _; rfl); (case k7 => rfl)) | ((with_reducible refine isCall ?_); (refine' CallF.of (Nat.lt_succ_self _) rfl (cased_call ?_))) | ((with_reducible refine isCall ?_); (refine' CallF.of (Nat.lt_succ_self _) rfl (basic_call ?k0 ?_); (case k0 => k_caughtN0))) | ((with_reducible refine isCall ?_); (refine' CallF.of (Nat.lt_succ_self _) rfl (adapted_call ?k0 ?k1 ?_ ?_ ?_); (case k0 => k_caughtN0); (case k1 => assumption))) | k_caughtB | ((with_reducible refine' TS.asgS3 ?_ ?k1 ?k2 ?k3 ?k4 ?k5 ?k6); (case k1 => intro _; rfl); (case k2 => intro _; rfl); (case k3 => intro _; rfl); (case k4 => intro _ _; rfl); (case k5 => intro env e; cases env; dsimp only at e; subst e; rfl); (case k6 => rfl)))
        refine hQ' .next _ ⟨rfl, ?_⟩
        k_caughtNB
      rintro ⟨loc, H'⟩ ⟨eH, hl⟩
      dsimp only at eH
      subst eH
      refine TSs.forg hl ?_
      refine TSs.cut1 (fun σ => σ.H = H2 ++ .list ((plainOf w page ++ (if plainOf w page = [] then [] else [45])).map V.int) :: [] ∧ Has σ.loc [("text", .ref t), ("numbers", .ref i), ("wished", .ref wi), ("found", .ref H2.length), ("many_basic", .int (plainOf w page).length), ("done", .int (plainOf w page).length)]) (TS.opq fun Q' hQ' => ?_) ?_
      · repeat' (first | (with_reducible refine TE.and ?_) | (with_reducible refine TB.call ?_) | ((with_reducible refine' TGet.n_bias ?k0 ?_); (case k0 => k_caughtN0)) | ((with_reducible refine' TGet.n_first ?k0 ?_); (case k0 => k_caughtN0)) | (with_reducible refine Op2.isnot_none ?_) | ((with_reducible refine' TE.mapp ?k0 ?k1 ?k2 ?_ ?k4 ?k5 ?k6); (case k0 => rfl); (case k1 => rfl); (case k2 => exact ⟨_, by k_caughtN0⟩); (case k4 => intro _; rfl); (case k5 => intro _; rfl); (case k6 => rfl)) | ((with_reducible refine' TE.mext ?k0 ?k1 ?k2 ?_ ?k4 ?k5 ?k6); (case k0 => rfl); (case k1 => rfl); (case k2 => exact ⟨_, by k_caughtN0⟩); (case k4 => intro _; rfl); (case k5 => intro _; rfl); (case k6 => rfl)) | ((with_reducible refine' TE.m_adapted ?k0 ?k1 ?k2 ?_ ?k4 ?k5 ?k6 ?k7); (case k0 => rfl); (case k1 => rfl); (case k2 => k_caughtN0); (case k4 => intro _; rfl); (case k5 => intro _ _; rfl); (case k6 => intro _; rfl); (case k7 => rfl)) | ((with_reducible refine isCall ?_); (refine' CallF.of (Nat.lt_succ_self _) rfl (cased_call ?_))) | ((with_reducible refine isCall ?_); (refine' CallF.of (Nat.lt_succ_self _) rfl (basic_call ?k0 ?_); (case k0 => k_caughtN0))) | ((with_reducible refine isCall ?_); (refine' CallF.of (Nat.lt_succ_self _) rfl (adapted_call ?k0 ?k1 ?_ ?_ ?_); (case k0 => k_caughtN0); (case k1 => assumption))) | k_caughtB | ((with_reducible refine' TS.asgS3 ?_ ?k1 ?k2 ?k3 ?k4 ?k5 ?k6); (case k1 => intro _; rfl); (case k2 => intro _; rfl); (case k3 => intro _; rfl); (case k4 => intro _ _; rfl); (case k5 => intro env e; cases env; dsimp only at e; subst e; rfl); (case k6 => rfl)))
        · rename_i c0
          have c1 : plainOf w page ≠ [] := fun z => by simp [z] at c0
          refine ⟨_, get_at _ _ [], by simp; (first | lia | omega), ?_⟩
          refine TSs.nil ?_
          exact hQ' .next _ ⟨by dsimp only; rw [set_at, if_neg c1, List.map_append]; rfl, by k_caughtNB⟩
        · rename_i c0
          have c1 : plainOf w page = [] := by
            cases z : plainOf w page with
            | nil => rfl
            | cons a r => rw [z] at c0; simp at c0
          exact hQ' .next _ ⟨by dsimp only; rw [if_pos c1, List.append_nil], by k_caughtNB⟩
      rintro ⟨loc, H'⟩ ⟨eH, hl⟩
      dsimp only at eH
      subst eH
      refine TSs.forg hl ?_
      refine TSs.cut1 (fun σ => σ.H = H2 ++ .list ((plainOf w page ++ (if plainOf w page = [] then [] else [45])).map V.int) :: [] ∧ Has σ.loc [("text", .ref t), ("numbers", .ref i), ("wished", .ref wi), ("found", .ref H2.length), ("many_basic", .int (plainOf w page).length), ("done", .int (plainOf w page).length), ("code", .int w.first), ("delta", .int 0), ("bias", .int w.bias)]) (TS.opq fun Q' hQ' => ?_) ?_
      · repeat' (first | (with_reducible refine TE.and ?_) | (with_reducible refine TB.call ?_) | ((with_reducible refine' TGet.n_bias ?k0 ?_); (case k0 => k_caughtN0)) | ((with_reducible refine' TGet.n_first ?k0 ?_); (case k0 => k_caughtN0)) | (with_reducible refine Op2.isnot_none ?_) | ((with_reducible refine' TE.mapp ?k0 ?k1 ?k2 ?_ ?k4 ?k5 ?k6); (case k0 => rfl); (case k1 => rfl); (case k2 => exact ⟨_, by k_caughtN0⟩); (case k4 => intro _; rfl); (case k5 => intro _; rfl); (case k6 => rfl)) | ((with_reducible refine' TE.mext ?k0 ?k1 ?k2 ?_ ?k4 ?k5 ?k6); (case k0 => rfl); (case k1 => rfl); (case k2 => exact ⟨_, by k_caughtN0⟩); (case k4 => intro _; rfl); (case k5 => intro _; rfl); (case k6 => rfl)) | ((with_reducible refine' TE.m_adapted ?k0 ?k1 ?k2 ?_ ?k4 ?k5 ?k6 ?k7); (case k0 => rfl); (case k1 => rfl); (case k2 => k_caughtN0); (case k4 => intro _; rfl); (case k5 => intro _ _; rfl); (case k6 => intro _; rfl); (case k7 => rfl)) | ((with_reducible refine isCall ?_); (refine' CallF.of (Nat.lt_succ_self _) rfl (cased_call ?_))) | ((with_reducible refine isCall ?_); (refine' CallF.of (Nat.lt_succ_self _) rfl (basic_call ?k0 ?_); (case k0 => k_caughtN0))) | ((with_reducible refine isCall ?_); (refine' CallF.of (Nat.lt_succ_self _) rfl (adapted_call ?k0 ?k1 ?_ ?_ ?_); (case k0 => k_caughtN0); (case k1 => assumption))) | k_caughtB | ((with_reducible refine' TS.asgS3 ?_ ?k1 ?k2 ?k3 ?k4 ?k5 ?k6); (case k1 => intro _; rfl); (case k2 => intro _; rfl); (case k3 => intro _; rfl); (case k4 => intro _ _; rfl); (case k5 => intro env e; cases env; dsimp only at e; subst e; rfl); (case k6 => rfl)))
        refine hQ' .next _ ⟨rfl, ?_⟩
        k_caughtNB
      rintro ⟨loc, H'⟩ ⟨eH, hl⟩
      dsimp only at eH
      subst eH
      refine TSs.forg hl ?_
      refine TSs.cons ?_
      have k0 : Has [("text", V.ref t), ("numbers", .ref i), ("wished", .ref wi), ("found", .ref H2.length), ("many_basic", .int (plainOf w page).length), ("done", .int (plainOf w page).length), ("code", .int w.first), ("delta", .int 0), ("bias", .int w.bias)] [("text", V.ref t), ("numbers", .ref i), ("wished", .ref wi), ("found", .ref H2.length), ("many_basic", .int (plainOf w page).length), ("done", .int (plainOf w page).length), ("code", .int w.first), ("delta", .int 0), ("bias", .int w.bias)] := by k_caughtNB
      have okf := ok.fs
      refine TS.while_ (EncW H2 t i wi w page ps) (page.length - ltn page w.first).toNat ⟨plainOf w page ++ (if plainOf w page = [] then [] else [45]), [], w.first, 0, w.bias, w.first, 0, rfl, (show Has _ _ from k0), Int.le_refl _, by (first | lia | omega), rfl, by simp, by (first | lia | omega), (Int.mul_nonneg (by (first | lia | omega)) (by (first | lia | omega))), by simp only [List.length_append]; split <;> simp <;> (first | lia | omega), by rw [hp.all]; unfold wr; rw [show ltn page w.first = ((plainOf w page).length : Int) from rfl, decide_eq_true rfl], fun g => by rw [hp.all] at g; exact g, Int.le_refl _⟩ ?_
      rintro n ⟨loc, H'⟩ hI
      refine TB.opq fun Q' R' hQ' hR' => ?_
      refine opaq fun P kP => ?_
      obtain ⟨fs, T, c, delta, b, state, place, eH, hl, hc1, hc2, rfl, ed, d0, d1, hfz, etl, hg, hpl1⟩ := hI
      dsimp only at eH
      subst eH
      refine kP (TB.forget hl ?_)
      clear kP P
      repeat' (first | (with_reducible refine TE.and ?_) | (with_reducible refine TB.call ?_) | ((with_reducible refine' TGet.n_bias ?k0 ?_); (case k0 => k_caughtN0)) | ((with_reducible refine' TGet.n_first ?k0 ?_); (case k0 => k_caughtN0)) | (with_reducible refine Op2.isnot_none ?_) | ((with_reducible refine' TE.mapp ?k0 ?k1 ?k2 ?_ ?k4 ?k5 ?k6); (case k0 => rfl); (case k1 => rfl); (case k2 => exact ⟨_, by k_caughtN0⟩); (case k4 => intro _; rfl); (case k5 => intro _; rfl); (case k6 => rfl)) | ((with_reducible refine' TE.mext ?k0 ?k1 ?k2 ?_ ?k4 ?k5 ?k6); (case k0 => rfl); (case k1 => rfl); (case k2 => exact ⟨_, by k_caughtN0⟩); (case k4 => intro _; rfl); (case k5 => intro _; rfl); (case k6 => rfl)) | ((with_reducible refine' TE.m_adapted ?k0 ?k1 ?k2 ?_ ?k4 ?k5 ?k6 ?k7); (case k0 => rfl); (case k1 => rfl); (case k2 => k_caughtN0); (case k4 => intro _; rfl); (case k5 => intro _ _; rfl); (case k6 => intro _; rfl); (case k7 => rfl)) | ((with_reducible refine isCall ?_); (refine' CallF.of (Nat.lt_succ_self _) rfl (cased_call ?_))) | ((with_reducible refine isCall ?_); (refine' CallF.of (Nat.lt_succ_self _) rfl (basic_call ?k0 ?_); (case k0 => k_caughtN0))) | ((with_reducible refine isCall ?_); (refine' CallF.of (Nat.lt_succ_self _) rfl (adapted_call ?k0 ?k1 ?_ ?_ ?_); (case k0 => k_caughtN0); (case k1 => assumption))) | k_caughtB | ((with_reducible refine' TS.asgS3 ?_ ?k1 ?k2 ?k3 ?k4 ?k5 ?k6); (case k1 => intro _; rfl); (case k2 => intro _; rfl); (case k3 => intro _; rfl); (case k4 => intro _ _; rfl); (case k5 => intro env e; cases env; dsimp only at e; subst e; rfl); (case k6 => rfl)))
      · rename_i cd
        have cd' : ltn page c < page.length := by simpa using cd
        refine CallF.of (Nat.lt_succ_self _) rfl (least_call (get_left Nt2 _) (by (first | lia | omega)) (ltn_some cd') fun M hM hcM hle T' => ?_)
        have hMb : 0 ≤ M ∧ M ≤ 1114111 := ⟨(hok M hM).1, (hok M hM).2.1⟩
        have hlt := ltn_le page c
        repeat' (first | (with_reducible refine TE.and ?_) | (with_reducible refine TB.call ?_) | ((with_reducible refine' TGet.n_bias ?k0 ?_); (case k0 => k_caughtN0)) | ((with_reducible refine' TGet.n_first ?k0 ?_); (case k0 => k_caughtN0)) | (with_reducible refine Op2.isnot_none ?_) | ((with_reducible refine' TE.mapp ?k0 ?k1 ?k2 ?_ ?k4 ?k5 ?k6); (case k0 => rfl); (case k1 => rfl); (case k2 => exact ⟨_, by k_caughtN0⟩); (case k4 => intro _; rfl); (case k5 => intro _; rfl); (case k6 => rfl)) | ((with_reducible refine' TE.mext ?k0 ?k1 ?k2 ?_ ?k4 ?k5 ?k6); (case k0 => rfl); (case k1 => rfl); (case k2 => exact ⟨_, by k_caughtN0⟩); (case k4 => intro _; rfl); (case k5 => intro _; rfl); (case k6 => rfl)) | ((with_reducible refine' TE.m_adapted ?k0 ?k1 ?k2 ?_ ?k4 ?k5 ?k6 ?k7); (case k0 => rfl); (case k1 => rfl); (case k2 => k_caughtN0); (case k4 => intro _; rfl); (case k5 => intro _ _; rfl); (case k6 => intro _; rfl); (case k7 => rfl)) | ((with_reducible refine isCall ?_); (refine' CallF.of (Nat.lt_succ_self _) rfl (cased_call ?_))) | ((with_reducible refine isCall ?_); (refine' CallF.of (Nat.lt_succ_self _) rfl (basic_call ?k0 ?_); (case k0 => k_caughtN0))) | ((with_reducible refine isCall ?_); (refine' CallF.of (Nat.lt_succ_self _) rfl (adapted_call ?k0 ?k1 ?_ ?_ ?_); (case k0 => k_caughtN0); (case k1 => assumption))) | k_caughtB | ((with_reducible refine' TS.asgS3 ?_ ?k1 ?k2 ?k3 ?k4 ?k5 ?k6); (case k1 => intro _; rfl); (case k2 => intro _; rfl); (case k3 => intro _; rfl); (case k4 => intro _ _; rfl); (case k5 => intro env e; cases env; dsimp only at e; subst e; rfl); (case k6 => rfl)))
        refine TS.heap (H' := H2 ++ .list (fs.map V.int) :: (T ++ T')) (by simp) ?_
        refine TS.forg (loc' := [("text", .ref t), ("numbers", .ref i), ("wished", .ref wi), ("found", .ref H2.length), ("many_basic", .int (plainOf w page).length), ("done", .int (ltn page c)), ("code", .int M), ("delta", .int (delta + (M - c) * (ltn page c + 1))), ("bias", .int b)]) (by k_caughtNB) ?_
        have ej := ltn_jump hle hcM
        have rj := hp.jump hle hcM
        rw [← ej] at ed hfz etl hg hpl1 hlt ⊢
        rw [rj] at etl hg
        clear rj cd cd'
        have e0 := eqn_zero page M
        have x0 := cnt_zero page M
        refine TS.for_ (TIt.enum rfl (by intro P; k_is) rfl (by decide) ?_ (by intro _; rfl) (by intro _; rfl) (by intro _; rfl) rfl) (by intro _ _; rfl)
        repeat' (first | (with_reducible refine TE.and ?_) | (with_reducible refine TB.call ?_) | ((with_reducible refine' TGet.n_bias ?k0 ?_); (case k0 => k_caughtN0)) | ((with_reducible refine' TGet.n_first ?k0 ?_); (case k0 => k_caughtN0)) | (with_reducible refine Op2.isnot_none ?_) | ((with_reducible refine' TE.mapp ?k0 ?k1 ?k2 ?_ ?k4 ?k5 ?k6); (case k0 => rfl); (case k1 => rfl); (case k2 => exact ⟨_, by k_caughtN0⟩); (case k4 => intro _; rfl); (case k5 => intro _; rfl); (case k6 => rfl)) | ((with_reducible refine' TE.mext ?k0 ?k1 ?k2 ?_ ?k4 ?k5 ?k6); (case k0 => rfl); (case k1 => rfl); (case k2 => exact ⟨_, by k_caughtN0⟩); (case k4 => intro _; rfl); (case k5 => intro _; rfl); (case k6 => rfl)) | ((with_reducible refine' TE.m_adapted ?k0 ?k1 ?k2 ?_ ?k4 ?k5 ?k6 ?k7); (case k0 => rfl); (case k1 => rfl); (case k2 => k_caughtN0); (case k4 => intro _; rfl); (case k5 => intro _ _; rfl); (case k6 => intro _; rfl); (case k7 => rfl)) | ((with_reducible refine isCall ?_); (refine' CallF.of (Nat.lt_succ_self _) rfl (cased_call ?_))) | ((with_reducible refine isCall ?_); (refine' CallF.of (Nat.lt_succ_self _) rfl (basic_call ?k0 ?_); (case k0 => k_caughtN0))) | ((with_reducible refine isCall ?_); (refine' CallF.of (Nat.lt_succ_self _) rfl (adapted_call ?k0 ?k1 ?_ ?_ ?_); (case k0 => k_caughtN0); (case k1 => assumption))) | k_caughtB | ((with_reducible refine' TS.asgS3 ?_ ?k1 ?k2 ?k3 ?k4 ?k5 ?k6); (case k1 => intro _; rfl); (case k2 => intro _; rfl); (case k3 => intro _; rfl); (case k4 => intro _ _; rfl); (case k5 => intro env e; cases env; dsimp only at e; subst e; rfl); (case k6 => rfl)))
        refine .inl ⟨t, _, rfl, get_left Nt2 _, (EncF H2 t i wi w page ps M), ⟨fs, T ++ T', _, b, state, place, rfl, by rw [e0, Int.add_zero]; k_caughtNB, ?_, ?_, ?_, ?_, ?_, ?_⟩, fun k σ e => by obtain ⟨_, _, _, _, _, _, e, _⟩ := e; rw [e]; exact get_left Nt2 _, ?_, ?_⟩
        · rw [e0, x0, ed, show M - state = (c - state) + (M - c) from by (first | lia | omega)]; simp only [Int.add_zero, Int.add_mul ((c - state)) (M - c)]; (first | lia | omega)
        · have := Int.mul_nonneg (show 0 ≤ M - c by (first | lia | omega)) (show 0 ≤ ltn page M + 1 by (first | lia | omega))
          (first | lia | omega)
        · have h1 := Int.mul_le_mul_of_nonneg_left (show ltn page M + 1 ≤ page.length + 1 by (first | lia | omega)) (show 0 ≤ M - c by (first | lia | omega))
          have h2 : M * ((page.length : Int) + 1) = c * (page.length + 1) + (M - c) * (page.length + 1) := by rw [← Int.add_mul]; congr 1; (first | lia | omega)
          rw [h2]
          (first | lia | omega)
        · rw [e0, Int.add_zero]; exact hfz
        · rw [e0, Int.add_zero]; exact etl
        · rw [e0, Int.add_zero]; exact hg
        · rintro k ⟨loc, H'⟩ hk hI v hv
          refine TAsgs.opq fun Q2 hQ2 => ?_
          refine opaq fun P kP => ?_
          obtain ⟨fs', T'', delta', b', state', place', eH, hl', ed', d0', d1', hfz', etl', hg'⟩ := hI
          dsimp only at eH
          subst eH
          obtain ⟨o, ho, rfl⟩ := get_map hv
          have hk' : k < page.length := by simpa using hk
          have eb := eqn_le page M k
          refine kP (TAsgs.forg hl' ?_)
          clear kP P
          repeat' (first | (with_reducible refine TE.and ?_) | (with_reducible refine TB.call ?_) | ((with_reducible refine' TGet.n_bias ?k0 ?_); (case k0 => k_caughtN0)) | ((with_reducible refine' TGet.n_first ?k0 ?_); (case k0 => k_caughtN0)) | (with_reducible refine Op2.isnot_none ?_) | ((with_reducible refine' TE.mapp ?k0 ?k1 ?k2 ?_ ?k4 ?k5 ?k6); (case k0 => rfl); (case k1 => rfl); (case k2 => exact ⟨_, by k_caughtN0⟩); (case k4 => intro _; rfl); (case k5 => intro _; rfl); (case k6 => rfl)) | ((with_reducible refine' TE.mext ?k0 ?k1 ?k2 ?_ ?k4 ?k5 ?k6); (case k0 => rfl); (case k1 => rfl); (case k2 => exact ⟨_, by k_caughtN0⟩); (case k4 => intro _; rfl); (case k5 => intro _; rfl); (case k6 => rfl)) | ((with_reducible refine' TE.m_adapted ?k0 ?k1 ?k2 ?_ ?k4 ?k5 ?k6 ?k7); (case k0 => rfl); (case k1 => rfl); (case k2 => k_caughtN0); (case k4 => intro _; rfl); (case k5 => intro _ _; rfl); (case k6 => intro _; rfl); (case k7 => rfl)) | ((with_reducible refine isCall ?_); (refine' CallF.of (Nat.lt_succ_self _) rfl (cased_call ?_))) | ((with_reducible refine isCall ?_); (refine' CallF.of (Nat.lt_succ_self _) rfl (basic_call ?k0 ?_); (case k0 => k_caughtN0))) | ((with_reducible refine isCall ?_); (refine' CallF.of (Nat.lt_succ_self _) rfl (adapted_call ?k0 ?k1 ?_ ?_ ?_); (case k0 => k_caughtN0); (case k1 => assumption))) | k_caughtB | ((with_reducible refine' TS.asgS3 ?_ ?k1 ?k2 ?k3 ?k4 ?k5 ?k6); (case k1 => intro _; rfl); (case k2 => intro _; rfl); (case k3 => intro _; rfl); (case k4 => intro _ _; rfl); (case k5 => intro env e; cases env; dsimp only at e; subst e; rfl); (case k6 => rfl)))
          · rename_i z
            refine hQ2 .next _ ⟨fs', T'', delta' + 1, b', state', place', rfl, ?_, ?_, by (first | lia | omega), by (first | lia | omega), ?_, ?_, ?_⟩
            · rw [eqn_miss ho (by (first | lia | omega))]; k_caughtNB
            · rw [eqn_miss ho (by (first | lia | omega)), cnt_le ho (by (first | lia | omega)), ed']; (first | lia | omega)
            · rw [eqn_miss ho (by (first | lia | omega))]; exact hfz'
            · rw [eqn_miss ho (by (first | lia | omega)), ← hp.miss ho (by (first | lia | omega))]; exact etl'
            · rw [eqn_miss ho (by (first | lia | omega)), ← hp.miss ho (by (first | lia | omega))]; exact hg'
          · rename_i z1 z2
            subst z2
            have big : delta' < 2 ^ 40 := by
              have := Int.mul_le_mul_of_nonneg_right (show o ≤ 1114111 by (first | lia | omega)) (show (0 : Int) ≤ page.length + 1 by (first | lia | omega))
              (first | lia | omega)
            refine TItem.list (get_left Nw2 _) (by (first | lia | omega)) (v := .none) (by rw [show ((k : Int).toNat) = k from rfl, List.getElem?_replicate, if_pos hk']) ?_ (by intro _ _; rfl)
            repeat' (first | (with_reducible refine TE.and ?_) | (with_reducible refine TB.call ?_) | ((with_reducible refine' TGet.n_bias ?k0 ?_); (case k0 => k_caughtN0)) | ((with_reducible refine' TGet.n_first ?k0 ?_); (case k0 => k_caughtN0)) | (with_reducible refine Op2.isnot_none ?_) | ((with_reducible refine' TE.mapp ?k0 ?k1 ?k2 ?_ ?k4 ?k5 ?k6); (case k0 => rfl); (case k1 => rfl); (case k2 => exact ⟨_, by k_caughtN0⟩); (case k4 => intro _; rfl); (case k5 => intro _; rfl); (case k6 => rfl)) | ((with_reducible refine' TE.mext ?k0 ?k1 ?k2 ?_ ?k4 ?k5 ?k6); (case k0 => rfl); (case k1 => rfl); (case k2 => exact ⟨_, by k_caughtN0⟩); (case k4 => intro _; rfl); (case k5 => intro _; rfl); (case k6 => rfl)) | ((with_reducible refine' TE.m_adapted ?k0 ?k1 ?k2 ?_ ?k4 ?k5 ?k6 ?k7); (case k0 => rfl); (case k1 => rfl); (case k2 => k_caughtN0); (case k4 => intro _; rfl); (case k5 => intro _ _; rfl); (case k6 => intro _; rfl); (case k7 => rfl)) | ((with_reducible refine isCall ?_); (refine' CallF.of (Nat.lt_succ_self _) rfl (cased_call ?_))) | ((with_reducible refine isCall ?_); (refine' CallF.of (Nat.lt_succ_self _) rfl (basic_call ?k0 ?_); (case k0 => k_caughtN0))) | ((with_reducible refine isCall ?_); (refine' CallF.of (Nat.lt_succ_self _) rfl (adapted_call ?k0 ?k1 ?_ ?_ ?_); (case k0 => k_caughtN0); (case k1 => assumption))) | k_caughtB | ((with_reducible refine' TS.asgS3 ?_ ?k1 ?k2 ?k3 ?k4 ?k5 ?k6); (case k1 => intro _; rfl); (case k2 => intro _; rfl); (case k3 => intro _; rfl); (case k4 => intro _ _; rfl); (case k5 => intro env e; cases env; dsimp only at e; subst e; rfl); (case k6 => rfl)))
            refine CallF.of (Nat.lt_succ_self _) rfl (number_call (N2.mono _) ok d0' big fun T3 => ?_)
            have q1 := ltn_eqn page o
            have q3 := ltn_le page (o + 1)
            have nl := nums_len ok (b := b') (k := 1) d0' big
            refine ⟨_, fs'.map V.int, _, rfl, get_left (get_at _ _ _) _, get_at _ _ _, by simpa using nums_ne, by simp only [List.length_map]; (first | lia | omega), ?_⟩
            refine TSs.heap (H' := H2 ++ .list ((fs' ++ nums w b' 1 delta').map V.int) :: (T'' ++ .list ((nums w b' 1 delta').map V.int) :: T3)) (by dsimp only; simp) ?_
            repeat' (first | (with_reducible refine TE.and ?_) | (with_reducible refine TB.call ?_) | ((with_reducible refine' TGet.n_bias ?k0 ?_); (case k0 => k_caughtN0)) | ((with_reducible refine' TGet.n_first ?k0 ?_); (case k0 => k_caughtN0)) | (with_reducible refine Op2.isnot_none ?_) | ((with_reducible refine' TE.mapp ?k0 ?k1 ?k2 ?_ ?k4 ?k5 ?k6); (case k0 => rfl); (case k1 => rfl); (case k2 => exact ⟨_, by k_caughtN0⟩); (case k4 => intro _; rfl); (case k5 => intro _; rfl); (case k6 => rfl)) | ((with_reducible refine' TE.mext ?k0 ?k1 ?k2 ?_ ?k4 ?k5 ?k6); (case k0 => rfl); (case k1 => rfl); (case k2 => exact ⟨_, by k_caughtN0⟩); (case k4 => intro _; rfl); (case k5 => intro _; rfl); (case k6 => rfl)) | ((with_reducible refine' TE.m_adapted ?k0 ?k1 ?k2 ?_ ?k4 ?k5 ?k6 ?k7); (case k0 => rfl); (case k1 => rfl); (case k2 => k_caughtN0); (case k4 => intro _; rfl); (case k5 => intro _ _; rfl); (case k6 => intro _; rfl); (case k7 => rfl)) | ((with_reducible refine isCall ?_); (refine' CallF.of (Nat.lt_succ_self _) rfl (cased_call ?_))) | ((with_reducible refine isCall ?_); (refine' CallF.of (Nat.lt_succ_self _) rfl (basic_call ?k0 ?_); (case k0 => k_caughtN0))) | ((with_reducible refine isCall ?_); (refine' CallF.of (Nat.lt_succ_self _) rfl (adapted_call ?k0 ?k1 ?_ ?_ ?_); (case k0 => k_caughtN0); (case k1 => assumption))) | k_caughtB | ((with_reducible refine' TS.asgS3 ?_ ?k1 ?k2 ?k3 ?k4 ?k5 ?k6); (case k1 => intro _; rfl); (case k2 => intro _; rfl); (case k3 => intro _; rfl); (case k4 => intro _ _; rfl); (case k5 => intro env e; cases env; dsimp only at e; subst e; rfl); (case k6 => rfl)))
            · exact d0'
            · (first | lia | omega)
            · have efl : decide (ltn page o + eqn page o (k + 1) = ((plainOf w page).length : Int)) = false := decide_eq_false (by rw [eqn_hit ho]; (first | lia | omega))
              have eit : ltn page o + eqn page o (k + 1) = ltn page o + eqn page o k + 1 := by rw [eqn_hit ho]; (first | lia | omega)
              rw [hp.hit ho (by (first | lia | omega))] at etl' hg'
              unfold tail at etl'
              dsimp only [Int.toNat_natCast] at etl'
              rw [← ed'] at etl'
              refine hQ2 .next _ ⟨fs' ++ nums w b' 1 delta', T'' ++ .list ((nums w b' 1 delta').map V.int) :: T3, 0, ad w delta' (ltn page o + eqn page o k + 1) (decide (ltn page o + eqn page o k = (plainOf w page).length)), o, cnt page o k + 1, rfl, ?_, ?_, Int.le_refl _, ?_, ?_, ?_, ?_⟩
              · rw [eit]; k_caughtNB
              · rw [cnt_le ho (Int.le_refl _), Int.sub_self, Int.zero_mul]; (first | lia | omega)
              · have := Int.mul_nonneg (show 0 ≤ o by (first | lia | omega)) (show (0 : Int) ≤ page.length + 1 by (first | lia | omega))
                (first | lia | omega)
              · rw [eit, List.length_append]; (first | lia | omega)
              · rw [efl, eit, List.append_assoc]; exact etl'
              · rw [eit]; exact fun g => hg' (by unfold Good; dsimp only [Int.toNat_natCast]; rw [← ed']; exact ⟨⟨d0', big⟩, g⟩)
          · rename_i z1 z2
            refine hQ2 .next _ ⟨fs', T'', delta', b', state', place', rfl, ?_, ?_, by (first | lia | omega), by (first | lia | omega), ?_, ?_, ?_⟩
            · rw [eqn_miss ho z2]; k_caughtNB
            · rw [eqn_miss ho z2, cnt_gt ho (by (first | lia | omega)), ed']
            · rw [eqn_miss ho z2]; exact hfz'
            · rw [eqn_miss ho z2, ← hp.miss ho z2]; exact etl'
            · rw [eqn_miss ho z2, ← hp.miss ho z2]; exact hg'
        · rintro ⟨loc, H'⟩ hI
          refine opaq fun P kP => ?_
          obtain ⟨fs', T'', delta', b', state', place', eH, hl', ed', d0', d1', hfz', etl', hg'⟩ := hI
          dsimp only at eH
          subst eH
          rw [List.length_map] at hl' ed' d1' hfz' etl' hg'
          rw [← ltn_eqn, hp.last] at etl' hg'
          rw [← ltn_eqn] at hl' ed' hfz'
          rw [cnt_end] at ed'
          refine kP (TSs.forg hl' ?_)
          clear kP P
          repeat' (first | (with_reducible refine TE.and ?_) | (with_reducible refine TB.call ?_) | ((with_reducible refine' TGet.n_bias ?k0 ?_); (case k0 => k_caughtN0)) | ((with_reducible refine' TGet.n_first ?k0 ?_); (case k0 => k_caughtN0)) | (with_reducible refine Op2.isnot_none ?_) | ((with_reducible refine' TE.mapp ?k0 ?k1 ?k2 ?_ ?k4 ?k5 ?k6); (case k0 => rfl); (case k1 => rfl); (case k2 => exact ⟨_, by k_caughtN0⟩); (case k4 => intro _; rfl); (case k5 => intro _; rfl); (case k6 => rfl)) | ((with_reducible refine' TE.mext ?k0 ?k1 ?k2 ?_ ?k4 ?k5 ?k6); (case k0 => rfl); (case k1 => rfl); (case k2 => exact ⟨_, by k_caughtN0⟩); (case k4 => intro _; rfl); (case k5 => intro _; rfl); (case k6 => rfl)) | ((with_reducible refine' TE.m_adapted ?k0 ?k1 ?k2 ?_ ?k4 ?k5 ?k6 ?k7); (case k0 => rfl); (case k1 => rfl); (case k2 => k_caughtN0); (case k4 => intro _; rfl); (case k5 => intro _ _; rfl); (case k6 => intro _; rfl); (case k7 => rfl)) | ((with_reducible refine isCall ?_); (refine' CallF.of (Nat.lt_succ_self _) rfl (cased_call ?_))) | ((with_reducible refine isCall ?_); (refine' CallF.of (Nat.lt_succ_self _) rfl (basic_call ?k0 ?_); (case k0 => k_caughtN0))) | ((with_reducible refine isCall ?_); (refine' CallF.of (Nat.lt_succ_self _) rfl (adapted_call ?k0 ?k1 ?_ ?_ ?_); (case k0 => k_caughtN0); (case k1 => assumption))) | k_caughtB | ((with_reducible refine' TS.asgS3 ?_ ?k1 ?k2 ?k3 ?k4 ?k5 ?k6); (case k1 => intro _; rfl); (case k2 => intro _; rfl); (case k3 => intro _; rfl); (case k4 => intro _ _; rfl); (case k5 => intro env e; cases env; dsimp only at e; subst e; rfl); (case k6 => rfl)))
          have q1 := ltn_eqn page M
          have q2 := eqn_pos hM
          have q3 := ltn_le page (M + 1)
          refine hQ' .next _ ⟨(page.length - ltn page (M + 1)).toNat, by (first | lia | omega), fs', T'', M + 1, delta' + 1, b', state', place', rfl, by k_caughtNB, by (first | lia | omega), by (first | lia | omega), rfl, ?_, by (first | lia | omega), ?_, hfz', etl', hg', by (first | lia | omega)⟩
          · rw [ed', show M + 1 - state' = (M - state') + 1 from by (first | lia | omega), Int.add_mul (M - state') 1]; (first | lia | omega)
          · rw [Int.add_mul]; (first | lia | omega)
      · rename_i cd
        have cd' : ¬ ltn page c < page.length := by simpa using cd
        rw [hp.none (ltn_full cd')] at etl hg
        unfold tail at etl
        rw [List.append_nil] at etl
        have hg' := hg trivial
        obtain ⟨T2, eT2⟩ := hT2
        refine hR' _ ?_
        repeat' (first | (with_reducible refine TE.and ?_) | (with_reducible refine TB.call ?_) | ((with_reducible refine' TGet.n_bias ?k0 ?_); (case k0 => k_caughtN0)) | ((with_reducible refine' TGet.n_first ?k0 ?_); (case k0 => k_caughtN0)) | (with_reducible refine Op2.isnot_none ?_) | ((with_reducible refine' TE.mapp ?k0 ?k1 ?k2 ?_ ?k4 ?k5 ?k6); (case k0 => rfl); (case k1 => rfl); (case k2 => exact ⟨_, by k_caughtN0⟩); (case k4 => intro _; rfl); (case k5 => intro _; rfl); (case k6 => rfl)) | ((with_reducible refine' TE.mext ?k0 ?k1 ?k2 ?_ ?k4 ?k5 ?k6); (case k0 => rfl); (case k1 => rfl); (case k2 => exact ⟨_, by k_caughtN0⟩); (case k4 => intro _; rfl); (case k5 => intro _; rfl); (case k6 => rfl)) | ((with_reducible refine' TE.m_adapted ?k0 ?k1 ?k2 ?_ ?k4 ?k5 ?k6 ?k7); (case k0 => rfl); (case k1 => rfl); (case k2 => k_caughtN0); (case k4 => intro _; rfl); (case k5 => intro _ _; rfl); (case k6 => intro _; rfl); (case k7 => rfl)) | ((with_reducible refine isCall ?_); (refine' CallF.of (Nat.lt_succ_self _) rfl (cased_call ?_))) | ((with_reducible refine isCall ?_); (refine' CallF.of (Nat.lt_succ_self _) rfl (basic_call ?k0 ?_); (case k0 => k_caughtN0))) | ((with_reducible refine isCall ?_); (refine' CallF.of (Nat.lt_succ_self _) rfl (adapted_call ?k0 ?k1 ?_ ?_ ?_); (case k0 => k_caughtN0); (case k1 => assumption))) | k_caughtB | ((with_reducible refine' TS.asgS3 ?_ ?k1 ?k2 ?k3 ?k4 ?k5 ?k6); (case k1 => intro _; rfl); (case k2 => intro _; rfl); (case k3 => intro _; rfl); (case k4 => intro _ _; rfl); (case k5 => intro env e; cases env; dsimp only at e; subst e; rfl); (case k6 => rfl)))
        refine CallB.bytesL rfl (get_at _ _ _) (by rw [etl]; exact wr_in ok hok hg') ?_
        show Q _ _
        rw [etl]
        dsimp only
        rw [eT2, List.append_assoc]
        exact h hok hg' _
  · exact he hbad j T hT
end
section
inductive DRes where
  | err (s : PySem.Str)
  | ok (ys : List Int)
/-- the reading of the signs left -/
noncomputable def dls (w : Pm) : Nat → List Int → List Int → Int → Int → Int → Bool → DRes
  | 0, _, page, _, _, _, _ => .ok page
  | n + 1, xs, page, state, place, b, f =>
    if xs = [] then .ok page else
    match rd w b xs 0 0 1 1 with
    | .err s => .err s
    | .ok v m =>
      if 1114111 < state + (place + v) / (page.length + 1 : Nat) then .err "great"
      else if 55296 ≤ state + (place + v) / (page.length + 1 : Nat) ∧ state + (place + v) / (page.length + 1 : Nat) ≤ 57343 then .err "surrogate"
      else dls w n (xs.drop m) (page.take ((place + v) % (page.length + 1 : Nat)).toNat ++ [state + (place + v) / (page.length + 1 : Nat)] ++ page.drop ((place + v) % (page.length + 1 : Nat)).toNat)
        (state + (place + v) / (page.length + 1 : Nat)) ((place + v) % (page.length + 1 : Nat) + 1) (ad w v (page.length + 1 : Nat) f) false
noncomputable def dec (w : Pm) (xs : List Int) (c : Nat) : DRes :=
  if ∃ o ∈ xs.take c, ¬ o < w.first then .err "basic" else dls w (xs.length - (if c = 0 then 0 else c + 1)) (xs.drop (if c = 0 then 0 else c + 1)) (xs.take c) w.first 0 w.bias true

theorem rd_ok {w : Pm} (ok : w.Ok) {b : Int} : ∀ (xs : List Int) (n : Nat) (v t k v' : Int) (n' : Nat), rd w b xs n v t k = .ok v' n' → n < n' ∧ n' ≤ n + xs.length ∧ (0 ≤ t → v ≤ v')
  | [], _, _, _, _, _, _, e => by cases e
  | o :: r, n, v, t, k, v', n', e => by
    unfold rd at e
    cases hf : fgr o with
    | none => rw [hf] at e; cases e
    | some g =>
      rw [hf] at e
      dsimp only at e
      have gb := fgr_bounds hf
      split at e
      · cases e
      · split at e
        · cases e
          refine ⟨by (first | lia | omega), by simp only [List.length_cons]; (first | lia | omega), fun h => ?_⟩
          have := Int.mul_nonneg gb.1 h
          (first | lia | omega)
        · obtain ⟨a1, a2, a3⟩ := rd_ok ok r _ _ _ _ _ _ e
          have tb := thr_bounds ok k b
          refine ⟨by (first | lia | omega), by simp only [List.length_cons]; (first | lia | omega), fun h => ?_⟩
          have h1 := Int.mul_nonneg gb.1 h
          have h2 := a3 (Int.mul_nonneg h (by (first | lia | omega)))
          (first | lia | omega)
theorem fgr_dg {g : Int} (h0 : 0 ≤ g) (h1 : g < 36) : fgr (dg g) = some g := by
  unfold dg fgr
  split <;> (repeat' split) <;> first | (congr 1; (first | lia | omega)) | (first | lia | omega)
theorem rd_num {w : Pm} (ok : w.Ok) {b : Int} (r : List Int) : ∀ (m : Nat) (q : Int) (n : Nat) (v t k : Int), 0 ≤ q → q.toNat ≤ m → rd w b (nums w b k q ++ r) n v t k = .ok (v + q * t) (n + (nums w b k q).length)
  | m, q, n, v, t, k, h0, hm => by
    have tb := thr_bounds ok k b
    have b2 := ok.b2
    by_cases h : q < thr w k b
    · rw [nums_last ok h, List.cons_append, List.nil_append, rd, fgr_dg h0 (by (first | lia | omega))]
      dsimp only
      rw [if_neg (by have := ok.mb; (first | lia | omega)), if_pos h]
      rfl
    · obtain ⟨a1, a2⟩ := num_next ok h
      have h3 := Int.emod_nonneg (q - thr w k b) (show w.base - thr w k b ≠ 0 by (first | lia | omega))
      have h4 := Int.emod_lt_of_pos (q - thr w k b) (show 0 < w.base - thr w k b by (first | lia | omega))
      rw [nums_next ok h0 h, List.cons_append, rd, fgr_dg (by (first | lia | omega)) (by (first | lia | omega))]
      dsimp only
      rw [if_neg (by (first | lia | omega)), if_neg (by (first | lia | omega))]
      cases m with
      | zero => (first | lia | omega)
      | succ m =>
        rw [rd_num ok r m _ _ _ _ _ a1 (by (first | lia | omega))]
        congr 1
        · have e := Int.emod_add_mul_ediv (q - thr w k b) (w.base - thr w k b)
          generalize (q - thr w k b) % (w.base - thr w k b) = a at *
          generalize (q - thr w k b) / (w.base - thr w k b) = c at *
          have : q = thr w k b + a + (w.base - thr w k b) * c := by (first | lia | omega)
          rw [this]
          rw [Int.add_mul (thr w k b + a), Int.mul_right_comm, ← Int.mul_assoc c t, Int.mul_comm c t, Int.mul_comm (w.base - thr w k b) t, Int.mul_right_comm t]
          (first | lia | omega)
        · simp only [List.length_cons]; (first | lia | omega)
/-- the codes of the pairs with P -/
noncomputable def sel (P : Pr → Bool) : List Int → Nat → List Int
  | [], _ => []
  | a :: r, k => if P (a, (k : Int)) then a :: sel P r (k + 1) else sel P r (k + 1)
theorem sel_append {P : Pr → Bool} : ∀ (l l' : List Int) (k : Nat), sel P (l ++ l') k = sel P l k ++ sel P l' (k + l.length)
  | [], l', k => by simp [sel]
  | a :: r, l', k => by
    rw [List.cons_append, sel, sel, sel_append r l' (k + 1), show k + 1 + r.length = k + (a :: r).length by simp only [List.length_cons]; (first | lia | omega)]
    split <;> rfl
theorem sel_congr {P P' : Pr → Bool} : ∀ (l : List Int) (k : Nat), (∀ (j : Nat) (a : Int), l[j]? = some a → P (a, ((k + j : Nat) : Int)) = P' (a, ((k + j : Nat) : Int))) → sel P l k = sel P' l k
  | [], _, _ => rfl
  | a :: r, k, h => by
    have h0 := h 0 a rfl
    rw [Nat.add_zero] at h0
    rw [sel, sel, h0, sel_congr (P' := P') r (k + 1) fun j b hb => by
      have := h (j + 1) b (by simpa using hb)
      rwa [show k + (j + 1) = k + 1 + j by (first | lia | omega)] at this]
theorem sel_all {P : Pr → Bool} : ∀ (l : List Int) (k : Nat), (∀ (j : Nat) (a : Int), l[j]? = some a → P (a, ((k + j : Nat) : Int)) = true) → sel P l k = l
  | [], _, _ => rfl
  | a :: r, k, h => by
    have h0 := h 0 a rfl
    rw [Nat.add_zero] at h0
    rw [sel, if_pos h0, sel_all r (k + 1) fun j b hb => by
      have := h (j + 1) b (by simpa using hb)
      rwa [show k + (j + 1) = k + 1 + j by (first | lia | omega)] at this]
theorem sel_filter {f : Int → Bool} : ∀ (l : List Int) (k : Nat), sel (fun p => f p.1) l k = l.filter f
  | [], _ => rfl
  | a :: r, k => by
    rw [sel, List.filter_cons, sel_filter r]
theorem sel_insert {P P' : Pr → Bool} {page : List Int} {i : Nat} {a : Int} (ha : page[i]? = some a) (hP : P (a, (i : Int)) = false) (hP' : ∀ p : Pr, P' p = (P p || decide (p = (a, (i : Int))))) :
    sel P' page 0 = (sel P page 0).take (sel P (page.take i) 0).length ++ [a] ++ (sel P page 0).drop (sel P (page.take i) 0).length ∧ (sel P (page.take i) 0).length ≤ (sel P page 0).length := by
  obtain ⟨hi, e⟩ := List.getElem?_eq_some_iff.mp ha
  have es : page = page.take i ++ a :: page.drop (i + 1) := by
    rw [← e, ← List.drop_eq_getElem_cons hi, List.take_append_drop]
  have el : (page.take i).length = i := by rw [List.length_take]; (first | lia | omega)
  have e1 : sel P page 0 = sel P (page.take i) 0 ++ sel P (page.drop (i + 1)) (i + 1) := by
    conv => lhs; rw [es]
    rw [sel_append, sel, Nat.zero_add, el, hP, if_neg (by decide)]
  have e2 : sel P' page 0 = sel P (page.take i) 0 ++ a :: sel P (page.drop (i + 1)) (i + 1) := by
    conv => lhs; rw [es]
    rw [sel_append, sel, Nat.zero_add, el, hP', decide_eq_true rfl, Bool.or_true, if_pos rfl]
    congr 1
    · refine sel_congr _ _ fun j b hb => ?_
      have hj := (List.getElem?_eq_some_iff.mp hb).1
      rw [hP', decide_eq_false (fun z => by
        have := congrArg Prod.snd z
        dsimp only at this
        (first | lia | omega)), Bool.or_false]
    · congr 1
      refine sel_congr _ _ fun j b hb => ?_
      rw [hP', decide_eq_false (fun z => by
        have := congrArg Prod.snd z
        dsimp only at this
        (first | lia | omega)), Bool.or_false]
  rw [e2, e1, List.take_left, List.drop_left]
  simp
theorem dls_tail {w : Pm} {ps : List Pr} {page : List Int} (ok : w.Ok) (hok : ∀ c ∈ page, okc c) (hp : IsPs page w.first ps) : ∀ (L pre : List Pr), ps = pre ++ L → ∀ (n : Nat) (state place b : Int) (f : Bool),
    (tail w page L (sel (fun p => decide (p ∉ L)) page 0).length state place b f).length ≤ n → Good page L (sel (fun p => decide (p ∉ L)) page 0).length state place →
    dls w n (tail w page L (sel (fun p => decide (p ∉ L)) page 0).length state place b f) (sel (fun p => decide (p ∉ L)) page 0) state place b f = .ok page
  | [], pre, e, n, state, place, b, f, hn, g => by
    rw [sel_all _ _ fun _ _ _ => by simp]
    cases n with
    | zero => rfl
    | succ n => rfl
  | q :: r, pre, e, n, state, place, b, f, hn, g => by
    have hq : q ∈ ps := by rw [e]; simp
    obtain ⟨q0, qa, qf⟩ := (hp.2 q).mp hq
    have hpw := hp.1
    rw [e] at hpw
    obtain ⟨pw1, pw2, pw3⟩ := List.pairwise_append.mp hpw
    obtain ⟨pw4, pw5⟩ := List.pairwise_cons.mp pw2
    have hqr : q ∉ r := fun z => by have := pw4 q z; rw [plt_irrefl] at this; cases this
    have hqe : (q.1, ((q.2.toNat : Nat) : Int)) = q := Prod.ext rfl (by dsimp only; (first | lia | omega))
    have ins := sel_insert (P := fun p => decide (p ∉ q :: r)) (P' := fun p => decide (p ∉ r)) qa (by rw [hqe]; simp) (fun p => by
      rw [hqe]
      by_cases z : p = q
      · subst z; simp [hqr]
      · simp [z])
    have ecn : ((sel (fun p => decide (p ∉ q :: r)) (page.take q.2.toNat) 0).length : Int) = cnt page q.1 q.2.toNat := by
      rw [sel_congr (P' := fun p => decide (p.1 ≤ q.1)) _ _ fun j a ha => by
        have hj : j < q.2.toNat := by
          have := (List.getElem?_eq_some_iff.mp ha).1
          rw [List.length_take] at this; (first | lia | omega)
        have ha' : page[j]? = some a := by rwa [List.getElem?_take_of_lt hj] at ha
        rw [decide_eq_decide, Nat.zero_add]
        dsimp only
        constructor
        · intro z
          false_or_by_contra
          have hm : (a, (j : Int)) ∈ ps := (hp.2 _).mpr ⟨by dsimp only; (first | lia | omega), ha', by dsimp only; (first | lia | omega)⟩
          rw [e] at hm
          rcases List.mem_append.mp hm with hm | hm
          · have := plt_iff.mp (pw3 _ hm q (List.mem_cons_self ..))
            dsimp only at this; (first | lia | omega)
          · exact z hm
        · intro z hm
          rcases List.mem_cons.mp hm with hm | hm
          · have := congrArg Prod.snd hm
            dsimp only at this; (first | lia | omega)
          · have := plt_iff.mp (pw4 _ hm)
            dsimp only at this; (first | lia | omega)]
      rw [sel_filter (f := fun a => decide (a ≤ q.1))]
      rfl
    obtain ⟨hc1, hc2⟩ := hok q.1 (List.mem_of_getElem? qa)
    obtain ⟨⟨g1, g2⟩, g3⟩ := g
    generalize ecur : sel (fun p => decide (p ∉ q :: r)) page 0 = cur at *
    generalize eah : (sel (fun p => decide (p ∉ q :: r)) (page.take q.2.toNat) 0).length = ah at *
    obtain ⟨ins1, ins2⟩ := ins
    unfold tail at hn ⊢
    rw [← ecn] at hn g1 g2 g3 ⊢
    generalize hδ : (q.1 - state) * ((cur.length : Int) + 1) + (ah : Int) - place = δ at *
    have elen : ((sel (fun p => decide (p ∉ r)) page 0).length : Int) = (cur.length : Int) + 1 := by
      rw [ins1]
      simp only [List.length_append, List.length_take, List.length_drop, List.length_cons, List.length_nil]
      (first | lia | omega)
    have hne : nums w b 1 δ ≠ [] := nums_ne
    have hlen : 0 < (nums w b 1 δ).length := List.length_pos_iff.mpr hne
    rw [List.length_append] at hn
    cases n with
    | zero => (first | lia | omega)
    | succ n =>
      have sm : place + (0 + δ * 1) = (q.1 - state) * ((cur.length + 1 : Nat) : Int) + ah := by
        rw [show ((cur.length + 1 : Nat) : Int) = (cur.length : Int) + 1 from by (first | lia | omega)]; (first | lia | omega)
      have hah0 : 0 ≤ (ah : Int) := by (first | lia | omega)
      have hah1 : (ah : Int) < ((cur.length + 1 : Nat) : Int) := by (first | lia | omega)
      have dv : (place + (0 + δ * 1)) / ((cur.length + 1 : Nat) : Int) = q.1 - state := by
        rw [sm, Int.mul_comm, Int.mul_add_ediv_left _ _ (by (first | lia | omega)), Int.ediv_eq_zero_of_lt hah0 hah1]; (first | lia | omega)
      have md : (place + (0 + δ * 1)) % ((cur.length + 1 : Nat) : Int) = ah := by
        rw [sm, Int.mul_comm, Int.mul_add_emod_self_left, Int.emod_eq_of_lt hah0 hah1]
      rw [dls, if_neg (by simp [hne]), rd_num ok _ _ _ _ _ _ _ g1 (Nat.le_refl _)]
      dsimp only
      rw [dv, md, show state + (q.1 - state) = q.1 by (first | lia | omega), if_neg (by (first | lia | omega)), if_neg (by (first | lia | omega))]
      rw [Nat.zero_add, List.drop_left, show ((ah : Int)).toNat = ah from rfl, ← ins1, show (0 + δ * 1) = δ by (first | lia | omega), show ((cur.length + 1 : Nat) : Int) = (cur.length : Int) + 1 from by (first | lia | omega)]
      rw [← elen] at hn g3 ⊢
      exact dls_tail ok hok hp r (pre ++ [q]) (by rw [e]; simp) n _ _ _ _ (by (first | lia | omega)) g3
/-- what is written is read back -/
theorem dec_wr {w : Pm} {ps : List Pr} {page : List Int} (ok : w.Ok) (hok : ∀ c ∈ page, okc c) (hp : IsPs page w.first ps) (g : Good page ps (plainOf w page).length w.first 0) :
    ∀ c, IsCut (wr w page ps) c → dec w (wr w page ps) c = .ok page := by
  intro c hc
  have tin := tail_in ok ps (plainOf w page).length w.first 0 w.bias true g
  have ep : sel (fun p => decide (p ∉ ps)) page 0 = plainOf w page := by
    rw [sel_congr (P' := fun p => decide (p.1 < w.first)) _ _ fun j a ha => by
      rw [decide_eq_decide, hp.2, Nat.zero_add]
      dsimp only
      constructor
      · intro z
        false_or_by_contra
        exact z ⟨by (first | lia | omega), ha, by (first | lia | omega)⟩
      · rintro z ⟨_, _, z2⟩; (first | lia | omega)]
    rw [sel_filter (f := fun a => decide (a < w.first))]
    rfl
  have ec : c = (plainOf w page).length := by
    refine IsCut.uniq hc ⟨fun k hk => ?_, fun h0 => ?_⟩
    · intro z
      unfold wr at z
      rw [List.getElem?_append_right (by
        rw [List.length_append]
        split <;> simp <;> (first | lia | omega))] at z
      have := tin 45 (List.mem_of_getElem? z)
      (first | lia | omega)
    · have hne : plainOf w page ≠ [] := List.length_pos_iff.mp h0
      unfold wr
      rw [if_neg hne, List.append_assoc, List.getElem?_append_right (Nat.le_refl _), Nat.sub_self]
      rfl
  have e1 : (wr w page ps).take c = plainOf w page := by
    unfold wr
    rw [List.append_assoc, ec, List.take_left]
  have e2 : (wr w page ps).drop (if c = 0 then 0 else c + 1) = tail w page ps (plainOf w page).length w.first 0 w.bias true := by
    unfold wr
    by_cases z : plainOf w page = []
    · rw [if_pos z, ec, z]; simp
    · have := List.length_pos_iff.mpr z
      rw [if_neg z, if_neg (by (first | lia | omega)), ec]
      rw [show (plainOf w page).length + 1 = (plainOf w page ++ [45]).length by simp, List.drop_left]
  have e3 : (wr w page ps).length - (if c = 0 then 0 else c + 1) = (tail w page ps (plainOf w page).length w.first 0 w.bias true).length := by
    rw [← e2, List.length_drop]
  unfold dec
  rw [e1, e2, e3, if_neg (by
    rintro ⟨o, ho, z⟩
    have := (List.mem_filter.mp ho).2
    simp only [decide_eq_true_eq] at this
    (first | lia | omega))]
  have := dls_tail ok hok hp ps [] rfl (tail w page ps (plainOf w page).length w.first 0 w.bias true).length w.first 0 w.bias true
  rw [ep] at this
  exact this (Nat.le_refl _) g
theorem IsPs.uniq {page : List Int} {first : Int} {ps qs : List Pr} (h : IsPs page first ps) (h' : IsPs page first qs) : ps = qs := by
  have key : ∀ (l m : List Pr), l.Pairwise (fun a b => plt a b = true) → m.Pairwise (fun a b => plt a b = true) → (∀ q, q ∈ l ↔ q ∈ m) → l = m := by
    intro l
    induction l with
    | nil => intro m _ _ e; cases m with
      | nil => rfl
      | cons a r => cases (e a).mpr (List.mem_cons_self ..)
    | cons a r ih =>
      intro m h1 h2 e
      cases m with
      | nil => cases (e a).mp (List.mem_cons_self ..)
      | cons b s =>
        obtain ⟨h3, h4⟩ := List.pairwise_cons.mp h1
        obtain ⟨h5, h6⟩ := List.pairwise_cons.mp h2
        have hab : a = b := by
          rcases List.mem_cons.mp ((e a).mp (List.mem_cons_self ..)) with z | z
          · exact z
          · rcases List.mem_cons.mp ((e b).mpr (List.mem_cons_self ..)) with y | y
            · exact y.symm
            · have := h5 _ z
              rw [plt_asymm (h3 _ y)] at this; cases this
        subst hab
        rw [ih s h4 h6 fun q => ?_]
        have hl : ∀ q ∈ r, q ≠ a := fun q hq z => by
          have := h3 q hq
          rw [z, plt_irrefl] at this; cases this
        have hm : ∀ q ∈ s, q ≠ a := fun q hq z => by
          have := h5 q hq
          rw [z, plt_irrefl] at this; cases this
        constructor
        · intro hq
          rcases List.mem_cons.mp ((e q).mp (List.mem_cons_of_mem _ hq)) with z | z
          · exact absurd z (hl q hq)
          · exact z
        · intro hq
          rcases List.mem_cons.mp ((e q).mpr (List.mem_cons_of_mem _ hq)) with z | z
          · exact absurd z (hm q hq)
          · exact z
  exact key ps qs h.1 h'.1 fun q => by rw [h.2, h'.2]
/-- there is such a list -/
theorem IsPs.exist (page : List Int) (first : Int) : ∃ ps, IsPs page first ps := by
  have ins : ∀ (l : List Pr) (x : Pr), l.Pairwise (fun a b => plt a b = true) → ∃ m : List Pr, m.Pairwise (fun a b => plt a b = true) ∧ ∀ q, q ∈ m ↔ (q = x ∨ q ∈ l) := by
    intro l x
    induction l with
    | nil => exact fun _ => ⟨[x], List.pairwise_singleton .., fun q => by simp⟩
    | cons a r ih =>
      intro h
      obtain ⟨h1, h2⟩ := List.pairwise_cons.mp h
      by_cases e : x = a
      · exact ⟨a :: r, h, fun q => by rw [e]; simp⟩
      · rcases plt_total e with z | z
        · refine ⟨x :: a :: r, List.pairwise_cons.mpr ⟨fun q hq => ?_, h⟩, fun q => by simp⟩
          rcases List.mem_cons.mp hq with rfl | hq
          · exact z
          · exact plt_trans z (h1 q hq)
        · obtain ⟨m, m1, m2⟩ := ih h2
          refine ⟨a :: m, List.pairwise_cons.mpr ⟨fun q hq => ?_, m1⟩, fun q => by simp only [List.mem_cons, m2]; constructor <;> rintro (h | h | h) <;> simp [h]⟩
          rcases (m2 q).mp hq with rfl | hq
          · exact z
          · exact h1 q hq
  have all : ∀ n : Nat, ∃ ps : List Pr, ps.Pairwise (fun a b => plt a b = true) ∧ ∀ q : Pr, q ∈ ps ↔ (0 ≤ q.2 ∧ q.2 < n ∧ page[q.2.toNat]? = some q.1 ∧ first ≤ q.1) := by
    intro n
    induction n with
    | zero => exact ⟨[], .nil, fun q => by simp; (first | lia | omega)⟩
    | succ n ih =>
      obtain ⟨ps, h1, h2⟩ := ih
      cases ha : page[n]? with
      | none => exact ⟨ps, h1, fun q => by
          rw [h2]
          constructor
          · rintro ⟨a, b, c⟩; exact ⟨a, by (first | lia | omega), c⟩
          · rintro ⟨a, b, c, e⟩
            refine ⟨a, ?_, c, e⟩
            have : q.2.toNat ≠ n := fun z => by rw [z, ha] at c; cases c
            (first | lia | omega)⟩
      | some a =>
        by_cases hf : first ≤ a
        · obtain ⟨m, m1, m2⟩ := ins ps (a, (n : Int)) h1
          refine ⟨m, m1, fun q => ?_⟩
          rw [m2, h2]
          constructor
          · rintro (rfl | ⟨z1, z2, z3⟩)
            · exact ⟨by dsimp only; (first | lia | omega), by dsimp only; (first | lia | omega), ha, hf⟩
            · exact ⟨z1, by (first | lia | omega), z3⟩
          · rintro ⟨z1, z2, z3, z4⟩
            by_cases z : q.2.toNat = n
            · left
              rw [z, ha] at z3
              refine Prod.ext ?_ ?_
              · exact (Option.some.inj z3).symm
              · dsimp only; (first | lia | omega)
            · exact .inr ⟨z1, by (first | lia | omega), z3, z4⟩
        · refine ⟨ps, h1, fun q => ?_⟩
          rw [h2]
          constructor
          · rintro ⟨z1, z2, z3⟩; exact ⟨z1, by (first | lia | omega), z3⟩
          · rintro ⟨z1, z2, z3, z4⟩
            refine ⟨z1, ?_, z3, z4⟩
            have : q.2.toNat ≠ n := fun z => by
              rw [z, ha] at z3
              have := Option.some.inj z3
              (first | lia | omega)
            (first | lia | omega)
  obtain ⟨ps, h1, h2⟩ := all page.length
  refine ⟨ps, h1, fun q => ?_⟩
  rw [h2]
  constructor
  · rintro ⟨z1, z2, z3⟩; exact ⟨z1, z3⟩
  · rintro ⟨z1, z2, z3⟩
    have := (List.getElem?_eq_some_iff.mp z2).1
    exact ⟨z1, by (first | lia | omega), z2, z3⟩
end
section
theorem TAsgs.heap {x : Sx} {E : Nat → St → Prop} {t : List Expr} {v : List V} {Q : St → Prop} {loc : List (PySem.Str × V)} {H H' : List O} (k : H = H') (h : TAsgs x E t v ⟨loc, H'⟩ Q) : TAsgs x E t v ⟨loc, H⟩ Q := by subst k; exact h
theorem TAsg.norm {x : Sx} {E : Nat → St → Prop} {t : Expr} {Q : St → Prop} {loc : List (PySem.Str × V)} {H2 X : List O} {N : O} (e : ∃ T, X = H2 ++ T) (h : ∀ (l5 : Nat) (T5 : List O), (H2 ++ T5)[l5]? = some N → (∀ (j : Nat) (o : O), X[j]? = some o → (H2 ++ T5)[j]? = some o) → TAsg x E t (.ref l5) ⟨loc, H2 ++ T5⟩ Q) : TAsg x E t (.ref X.length) ⟨loc, X ++ [N]⟩ Q := by
  obtain ⟨T, e⟩ := e
  have := h X.length (T ++ [N]) (by rw [← List.append_assoc, ← e]; exact get_at _ _ []) (fun j o hj => by rw [← List.append_assoc, ← e]; exact get_left hj _)
  rwa [← List.append_assoc, ← e] at this
theorem pick_take {vs : List V} {k : Int} (h0 : 0 ≤ k) (h1 : k ≤ vs.length) : pickV vs none (some k) = vs.take k.toNat := by
  unfold pickV kms_lo kms_hi
  dsimp only
  simp only [List.drop_zero, Nat.sub_zero]
  congr 1
  split <;> (first | lia | omega)
theorem pick_drop {vs : List V} {k : Int} (h0 : 0 ≤ k) (h1 : k ≤ vs.length) : pickV vs (some k) none = vs.drop k.toNat := by
  unfold pickV kms_lo kms_hi
  dsimp only
  rw [List.take_of_length_le (by simp)]
  congr 1
  split <;> (first | lia | omega)
inductive DeW (H2 : List O) (i : Nat) (w : Pm) (xs : List Int) (c' : Nat) (n : Nat) (σ : St) : Prop
  | mk (a fu : Nat) (page : List Int) (cv : List V) (lt lc : Nat) (state place b : Int) (f : Bool) (T : List O) (h0 : σ.H = H2 ++ T) (h1 : Has σ.loc [("octets", .bytes xs), ("numbers", .ref i), ("basic", .bytes (xs.take c')), ("at", .int (a : Nat)), ("text", .ref lt), ("capitals", .ref lc), ("code", .int state), ("index", .int place), ("bias", .int b)]) (h2 : (H2 ++ T)[lt]? = some (.list (page.map V.int))) (h3 : (H2 ++ T)[lc]? = some (.list cv)) (h4 : cv.length = page.length) (h5 : a ≤ xs.length) (h6 : n = xs.length - a) (h7 : 0 ≤ place) (h8 : 0 ≤ state) (h9 : page.length ≤ a) (h10 : f = decide (place = 0 ∧ page.length = (xs.take c').length)) (h11 : xs.length - a ≤ fu) (h12 : dls w fu (xs.drop a) page state place b f = dec w xs c')
theorem deca_call {d : Nat} {E} {xs : List Int} {nv : V} {w : Pm} {c : Nat} {H : List O} {Q : V → List O → Prop} (hA : (∃ i, nv = .ref i ∧ Nums H i w) ∨ (nv = .none ∧ w = std)) (ok : w.Ok) (hz : xs.length < 900) (hc : IsCut xs c)
    (h : ∀ ys, dec w xs c = .ok ys → ∀ T l l2, (H ++ T)[l]? = some (.list (ys.map V.int)) → Q (.ref (H ++ T).length) (H ++ T ++ [.tuple [.ref l, .ref l2]])) (he : ∀ s, dec w xs c = .err s → ∀ j T, Told (H ++ T) j s → E j (H ++ T)) : TC (d + 4) E 190 [.bytes xs, nv] H Q := by
  (refine' TC.plain ?ho ?hcd ?hb ?hl ?hc ?_ (fun _ _ _ _ _ _ _ e => by subst e; exact leaves_to rfl rfl rfl rfl rfl) ?h1 ?h2 ?h3; (case ho => intro P; k_is); (case hcd => intro P; k_is); (case hb => exact Binds.twoK (fun P s v v' X => binds_K X rfl (by k_is) rfl rfl rfl)); (case hl => rfl); (case hc => rfl); (case h1 => rfl); (case h2 => rfl); (case h3 => rfl); (change TSs ⟨⟨_, _, _, _, _⟩, _, _, _, _⟩ _ _ (_ :: _) _))
  refine TSs.cut1 (fun σ => ∃ T i, σ.H = H ++ T ∧ Nums (H ++ T) i w ∧ Has σ.loc [("octets", .bytes xs), ("numbers", .ref i)]) (TS.opq fun Q4 hQ4 => ?_) ?_
  · rcases hA with ⟨i, rfl, N⟩ | ⟨rfl, rfl⟩
    · repeat' (first | (with_reducible refine TB.not ?_) | (with_reducible refine TE.and ?_) | (with_reducible refine TB.call ?_) | ((with_reducible refine' TGet.n_bias ?k0 ?_); (case k0 => k_caughtN0)) | ((with_reducible refine' TGet.n_first ?k0 ?_); (case k0 => k_caughtN0)) | (with_reducible refine ifn (fun _ => ?_) (fun _ => ?_)) | ((with_reducible refine' TE.mapp ?k0 ?k1 ?k2 ?_ ?k4 ?k5 ?k6); (case k0 => rfl); (case k1 => rfl); (case k2 => exact ⟨_, by k_caughtN0⟩); (case k4 => intro _; rfl); (case k5 => intro _; rfl); (case k6 => rfl)) | ((with_reducible refine' TE.m_adapted ?k0 ?k1 ?k2 ?_ ?k4 ?k5 ?k6 ?k7); (case k0 => rfl); (case k1 => rfl); (case k2 => k_caughtN0); (case k4 => intro _; rfl); (case k5 => intro _ _; rfl); (case k6 => intro _; rfl); (case k7 => rfl)) | ((with_reducible refine' TS.raise ?k0 ?k1 ?k2 ?k3 ?_ ?k5 ?k6); (case k0 => rfl); (case k1 => intro P; k_is); (case k2 => exact Nat.le_add_left 3 _); (case k3 => rfl); (case k5 => intro _; rfl); (case k6 => rfl)) | (with_reducible refine TE.cut ?_) | (with_reducible refine TOpt.none ?_) | (with_reducible refine TOpt.some ?_) | ((with_reducible refine isCall ?_); (refine' CallF.of (Nat.lt_succ_self _) rfl (scalar_call ?_))) | ((with_reducible refine isCall ?_); (refine' CallF.of (Nat.lt_succ_self _) rfl (capital_call (fun _ => ?_)))) | ((with_reducible refine isCall ?_); (refine' CallF.of (Nat.lt_succ_self _) rfl (basic_call ?k0 ?_); (case k0 => k_caughtN0))) | ((with_reducible refine isCall ?_); (refine' CallF.of (Nat.lt_succ_self _) rfl (adapted_call ?k0 ?k1 ?_ ?_ ?_); (case k0 => k_caughtN0); (case k1 => assumption))) | k_caughtB | ((with_reducible refine' TS.asgS3 ?_ ?k1 ?k2 ?k3 ?k4 ?k5 ?k6); (case k1 => intro _; rfl); (case k2 => intro _; rfl); (case k3 => intro _; rfl); (case k4 => intro _ _; rfl); (case k5 => intro env e; cases env; dsimp only at e; subst e; rfl); (case k6 => rfl)))
      exact hQ4 .next _ ⟨[], i, by simp, by simpa using N, by k_caughtNB⟩
    · repeat' (first | (with_reducible refine TB.not ?_) | (with_reducible refine TE.and ?_) | (with_reducible refine TB.call ?_) | ((with_reducible refine' TGet.n_bias ?k0 ?_); (case k0 => k_caughtN0)) | ((with_reducible refine' TGet.n_first ?k0 ?_); (case k0 => k_caughtN0)) | (with_reducible refine ifn (fun _ => ?_) (fun _ => ?_)) | ((with_reducible refine' TE.mapp ?k0 ?k1 ?k2 ?_ ?k4 ?k5 ?k6); (case k0 => rfl); (case k1 => rfl); (case k2 => exact ⟨_, by k_caughtN0⟩); (case k4 => intro _; rfl); (case k5 => intro _; rfl); (case k6 => rfl)) | ((with_reducible refine' TE.m_adapted ?k0 ?k1 ?k2 ?_ ?k4 ?k5 ?k6 ?k7); (case k0 => rfl); (case k1 => rfl); (case k2 => k_caughtN0); (case k4 => intro _; rfl); (case k5 => intro _ _; rfl); (case k6 => intro _; rfl); (case k7 => rfl)) | ((with_reducible refine' TS.raise ?k0 ?k1 ?k2 ?k3 ?_ ?k5 ?k6); (case k0 => rfl); (case k1 => intro P; k_is); (case k2 => exact Nat.le_add_left 3 _); (case k3 => rfl); (case k5 => intro _; rfl); (case k6 => rfl)) | (with_reducible refine TE.cut ?_) | (with_reducible refine TOpt.none ?_) | (with_reducible refine TOpt.some ?_) | ((with_reducible refine isCall ?_); (refine' CallF.of (Nat.lt_succ_self _) rfl (scalar_call ?_))) | ((with_reducible refine isCall ?_); (refine' CallF.of (Nat.lt_succ_self _) rfl (capital_call (fun _ => ?_)))) | ((with_reducible refine isCall ?_); (refine' CallF.of (Nat.lt_succ_self _) rfl (basic_call ?k0 ?_); (case k0 => k_caughtN0))) | ((with_reducible refine isCall ?_); (refine' CallF.of (Nat.lt_succ_self _) rfl (adapted_call ?k0 ?k1 ?_ ?_ ?_); (case k0 => k_caughtN0); (case k1 => assumption))) | k_caughtB | ((with_reducible refine' TS.asgS3 ?_ ?k1 ?k2 ?k3 ?k4 ?k5 ?k6); (case k1 => intro _; rfl); (case k2 => intro _; rfl); (case k3 => intro _; rfl); (case k4 => intro _ _; rfl); (case k5 => intro env e; cases env; dsimp only at e; subst e; rfl); (case k6 => rfl)))
      refine TE.call0 rfl (by intro P; k_is) (by intro P; k_is) (numbers0 (d := d + 2) ?_ rfl ?_) rfl
      · show d + 2 + 1 < d + 4
        (first | lia | omega)
      repeat' (first | (with_reducible refine TB.not ?_) | (with_reducible refine TE.and ?_) | (with_reducible refine TB.call ?_) | ((with_reducible refine' TGet.n_bias ?k0 ?_); (case k0 => k_caughtN0)) | ((with_reducible refine' TGet.n_first ?k0 ?_); (case k0 => k_caughtN0)) | (with_reducible refine ifn (fun _ => ?_) (fun _ => ?_)) | ((with_reducible refine' TE.mapp ?k0 ?k1 ?k2 ?_ ?k4 ?k5 ?k6); (case k0 => rfl); (case k1 => rfl); (case k2 => exact ⟨_, by k_caughtN0⟩); (case k4 => intro _; rfl); (case k5 => intro _; rfl); (case k6 => rfl)) | ((with_reducible refine' TE.m_adapted ?k0 ?k1 ?k2 ?_ ?k4 ?k5 ?k6 ?k7); (case k0 => rfl); (case k1 => rfl); (case k2 => k_caughtN0); (case k4 => intro _; rfl); (case k5 => intro _ _; rfl); (case k6 => intro _; rfl); (case k7 => rfl)) | ((with_reducible refine' TS.raise ?k0 ?k1 ?k2 ?k3 ?_ ?k5 ?k6); (case k0 => rfl); (case k1 => intro P; k_is); (case k2 => exact Nat.le_add_left 3 _); (case k3 => rfl); (case k5 => intro _; rfl); (case k6 => rfl)) | (with_reducible refine TE.cut ?_) | (with_reducible refine TOpt.none ?_) | (with_reducible refine TOpt.some ?_) | ((with_reducible refine isCall ?_); (refine' CallF.of (Nat.lt_succ_self _) rfl (scalar_call ?_))) | ((with_reducible refine isCall ?_); (refine' CallF.of (Nat.lt_succ_self _) rfl (capital_call (fun _ => ?_)))) | ((with_reducible refine isCall ?_); (refine' CallF.of (Nat.lt_succ_self _) rfl (basic_call ?k0 ?_); (case k0 => k_caughtN0))) | ((with_reducible refine isCall ?_); (refine' CallF.of (Nat.lt_succ_self _) rfl (adapted_call ?k0 ?k1 ?_ ?_ ?_); (case k0 => k_caughtN0); (case k1 => assumption))) | k_caughtB | ((with_reducible refine' TS.asgS3 ?_ ?k1 ?k2 ?k3 ?k4 ?k5 ?k6); (case k1 => intro _; rfl); (case k2 => intro _; rfl); (case k3 => intro _; rfl); (case k4 => intro _ _; rfl); (case k5 => intro env e; cases env; dsimp only at e; subst e; rfl); (case k6 => rfl)))
      exact hQ4 .next _ ⟨_, H.length + 1, rfl, ⟨H.length, by simp, by simp⟩, by k_caughtNB⟩
  clear hA
  rintro ⟨loc, H'⟩ ⟨T0, i, eH, N, hl⟩
  dsimp only at eH
  subst eH
  refine TSs.forg hl ?_
  repeat' (first | (with_reducible refine TB.not ?_) | (with_reducible refine TE.and ?_) | (with_reducible refine TB.call ?_) | ((with_reducible refine' TGet.n_bias ?k0 ?_); (case k0 => k_caughtN0)) | ((with_reducible refine' TGet.n_first ?k0 ?_); (case k0 => k_caughtN0)) | (with_reducible refine ifn (fun _ => ?_) (fun _ => ?_)) | ((with_reducible refine' TE.mapp ?k0 ?k1 ?k2 ?_ ?k4 ?k5 ?k6); (case k0 => rfl); (case k1 => rfl); (case k2 => exact ⟨_, by k_caughtN0⟩); (case k4 => intro _; rfl); (case k5 => intro _; rfl); (case k6 => rfl)) | ((with_reducible refine' TE.m_adapted ?k0 ?k1 ?k2 ?_ ?k4 ?k5 ?k6 ?k7); (case k0 => rfl); (case k1 => rfl); (case k2 => k_caughtN0); (case k4 => intro _; rfl); (case k5 => intro _ _; rfl); (case k6 => intro _; rfl); (case k7 => rfl)) | ((with_reducible refine' TS.raise ?k0 ?k1 ?k2 ?k3 ?_ ?k5 ?k6); (case k0 => rfl); (case k1 => intro P; k_is); (case k2 => exact Nat.le_add_left 3 _); (case k3 => rfl); (case k5 => intro _; rfl); (case k6 => rfl)) | (with_reducible refine TE.cut ?_) | (with_reducible refine TOpt.none ?_) | (with_reducible refine TOpt.some ?_) | ((with_reducible refine isCall ?_); (refine' CallF.of (Nat.lt_succ_self _) rfl (scalar_call ?_))) | ((with_reducible refine isCall ?_); (refine' CallF.of (Nat.lt_succ_self _) rfl (capital_call (fun _ => ?_)))) | ((with_reducible refine isCall ?_); (refine' CallF.of (Nat.lt_succ_self _) rfl (basic_call ?k0 ?_); (case k0 => k_caughtN0))) | ((with_reducible refine isCall ?_); (refine' CallF.of (Nat.lt_succ_self _) rfl (adapted_call ?k0 ?k1 ?_ ?_ ?_); (case k0 => k_caughtN0); (case k1 => assumption))) | k_caughtB | ((with_reducible refine' TS.asgS3 ?_ ?k1 ?k2 ?k3 ?k4 ?k5 ?k6); (case k1 => intro _; rfl); (case k2 => intro _; rfl); (case k3 => intro _; rfl); (case k4 => intro _ _; rfl); (case k5 => intro env e; cases env; dsimp only at e; subst e; rfl); (case k6 => rfl)))
  refine CallF.of (Nat.lt_succ_self _) rfl (split_call fun c' hc' => ?_)
  obtain rfl := hc'.uniq hc
  refine TAsg.tupRef (get_at _ _ []) ?_ rfl (by intro _; rfl) (by intro _; rfl)
  repeat' (first | (with_reducible refine TB.not ?_) | (with_reducible refine TE.and ?_) | (with_reducible refine TB.call ?_) | ((with_reducible refine' TGet.n_bias ?k0 ?_); (case k0 => k_caughtN0)) | ((with_reducible refine' TGet.n_first ?k0 ?_); (case k0 => k_caughtN0)) | (with_reducible refine ifn (fun _ => ?_) (fun _ => ?_)) | ((with_reducible refine' TE.mapp ?k0 ?k1 ?k2 ?_ ?k4 ?k5 ?k6); (case k0 => rfl); (case k1 => rfl); (case k2 => exact ⟨_, by k_caughtN0⟩); (case k4 => intro _; rfl); (case k5 => intro _; rfl); (case k6 => rfl)) | ((with_reducible refine' TE.m_adapted ?k0 ?k1 ?k2 ?_ ?k4 ?k5 ?k6 ?k7); (case k0 => rfl); (case k1 => rfl); (case k2 => k_caughtN0); (case k4 => intro _; rfl); (case k5 => intro _ _; rfl); (case k6 => intro _; rfl); (case k7 => rfl)) | ((with_reducible refine' TS.raise ?k0 ?k1 ?k2 ?k3 ?_ ?k5 ?k6); (case k0 => rfl); (case k1 => intro P; k_is); (case k2 => exact Nat.le_add_left 3 _); (case k3 => rfl); (case k5 => intro _; rfl); (case k6 => rfl)) | (with_reducible refine TE.cut ?_) | (with_reducible refine TOpt.none ?_) | (with_reducible refine TOpt.some ?_) | ((with_reducible refine isCall ?_); (refine' CallF.of (Nat.lt_succ_self _) rfl (scalar_call ?_))) | ((with_reducible refine isCall ?_); (refine' CallF.of (Nat.lt_succ_self _) rfl (capital_call (fun _ => ?_)))) | ((with_reducible refine isCall ?_); (refine' CallF.of (Nat.lt_succ_self _) rfl (basic_call ?k0 ?_); (case k0 => k_caughtN0))) | ((with_reducible refine isCall ?_); (refine' CallF.of (Nat.lt_succ_self _) rfl (adapted_call ?k0 ?k1 ?_ ?_ ?_); (case k0 => k_caughtN0); (case k1 => assumption))) | k_caughtB | ((with_reducible refine' TS.asgS3 ?_ ?k1 ?k2 ?k3 ?k4 ?k5 ?k6); (case k1 => intro _; rfl); (case k2 => intro _; rfl); (case k3 => intro _; rfl); (case k4 => intro _ _; rfl); (case k5 => intro env e; cases env; dsimp only at e; subst e; rfl); (case k6 => rfl)))
  refine TS.heap (H' := (H ++ T0 ++ [O.tuple [V.bytes (xs.take c'), V.int (if c' = 0 then 0 else c' + 1)]]) ++ .list [] :: .list [] :: []) (by simp) ?_
  refine TS.forg (loc' := [("octets", .bytes xs), ("numbers", .ref i), ("basic", .bytes (xs.take c')), ("at", .int ((if c' = 0 then 0 else c' + 1 : Nat) : Int)), ("text", .ref (H ++ T0 ++ [O.tuple [V.bytes (xs.take c'), V.int (if c' = 0 then 0 else c' + 1)]]).length), ("capitals", .ref ((H ++ T0 ++ [O.tuple [V.bytes (xs.take c'), V.int (if c' = 0 then 0 else c' + 1)]]).length + 1))]) (by
    refine .cons (.cons (.cons (.cons (.cons (.cons .nil ?_) ?_) ?_) ?_) ?_) ?_
    all_goals first | rfl | (show some (V.ref _) = some (V.ref _); congr 2; simp; done) | (show some (V.ref _) = some (V.ref _); congr 2; simp; (first | lia | omega)) | (show some (V.int _) = some (V.int _); congr 2; split <;> rfl)) ?_
  obtain ⟨H2, eH2⟩ : ∃ H2, H2 = H ++ T0 ++ [O.tuple [V.bytes (xs.take c'), V.int (if c' = 0 then 0 else c' + 1)]] := ⟨_, rfl⟩
  have N2 : Nums H2 i w := by rw [eH2]; exact N.mono _
  have hT2 : ∃ T, H2 = H ++ T := ⟨T0 ++ [O.tuple [V.bytes (xs.take c'), V.int (if c' = 0 then 0 else c' + 1)]], by rw [eH2]; simp⟩
  rw [← eH2]
  clear eH2 N hl T0
  obtain ⟨T2, eT2⟩ := hT2
  have he2 : ∀ s, dec w xs c' = .err s → ∀ X j T, Told (H2 ++ X ++ T) j s → E j (H2 ++ X ++ T) := fun s e X j T => by
    rw [eT2, List.append_assoc, List.append_assoc]; exact he s e j _
  have hclen : c' ≤ xs.length ∧ (0 < c' → c' < xs.length) := by
    have : 0 < c' → c' < xs.length := fun z => (List.getElem?_eq_some_iff.mp (hc'.2 z)).1
    (first | lia | omega)
  obtain ⟨a0, ea0⟩ : ∃ a0, a0 = if c' = 0 then 0 else c' + 1 := ⟨_, rfl⟩
  have ha0 : c' ≤ a0 ∧ a0 ≤ xs.length := by rw [ea0]; split <;> (first | lia | omega)
  rw [← ea0]
  refine TS.for_ (TIt.bytes ?_ (by intro _ _; rfl)) (by intro _ _; rfl)
  repeat' (first | (with_reducible refine TB.not ?_) | (with_reducible refine TE.and ?_) | (with_reducible refine TB.call ?_) | ((with_reducible refine' TGet.n_bias ?k0 ?_); (case k0 => k_caughtN0)) | ((with_reducible refine' TGet.n_first ?k0 ?_); (case k0 => k_caughtN0)) | (with_reducible refine ifn (fun _ => ?_) (fun _ => ?_)) | ((with_reducible refine' TE.mapp ?k0 ?k1 ?k2 ?_ ?k4 ?k5 ?k6); (case k0 => rfl); (case k1 => rfl); (case k2 => exact ⟨_, by k_caughtN0⟩); (case k4 => intro _; rfl); (case k5 => intro _; rfl); (case k6 => rfl)) | ((with_reducible refine' TE.m_adapted ?k0 ?k1 ?k2 ?_ ?k4 ?k5 ?k6 ?k7); (case k0 => rfl); (case k1 => rfl); (case k2 => k_caughtN0); (case k4 => intro _; rfl); (case k5 => intro _ _; rfl); (case k6 => intro _; rfl); (case k7 => rfl)) | ((with_reducible refine' TS.raise ?k0 ?k1 ?k2 ?k3 ?_ ?k5 ?k6); (case k0 => rfl); (case k1 => intro P; k_is); (case k2 => exact Nat.le_add_left 3 _); (case k3 => rfl); (case k5 => intro _; rfl); (case k6 => rfl)) | (with_reducible refine TE.cut ?_) | (with_reducible refine TOpt.none ?_) | (with_reducible refine TOpt.some ?_) | ((with_reducible refine isCall ?_); (refine' CallF.of (Nat.lt_succ_self _) rfl (scalar_call ?_))) | ((with_reducible refine isCall ?_); (refine' CallF.of (Nat.lt_succ_self _) rfl (capital_call (fun _ => ?_)))) | ((with_reducible refine isCall ?_); (refine' CallF.of (Nat.lt_succ_self _) rfl (basic_call ?k0 ?_); (case k0 => k_caughtN0))) | ((with_reducible refine isCall ?_); (refine' CallF.of (Nat.lt_succ_self _) rfl (adapted_call ?k0 ?k1 ?_ ?_ ?_); (case k0 => k_caughtN0); (case k1 => assumption))) | k_caughtB | ((with_reducible refine' TS.asgS3 ?_ ?k1 ?k2 ?k3 ?k4 ?k5 ?k6); (case k1 => intro _; rfl); (case k2 => intro _; rfl); (case k3 => intro _; rfl); (case k4 => intro _ _; rfl); (case k5 => intro env e; cases env; dsimp only at e; subst e; rfl); (case k6 => rfl)))
  refine ⟨_, rfl, fun k σ => ∃ cv : List V, cv.length = k ∧ σ.H = H2 ++ .list (((xs.take c').take k).map V.int) :: .list cv :: [] ∧ Has σ.loc [("octets", .bytes xs), ("numbers", .ref i), ("basic", .bytes (xs.take c')), ("at", .int (a0 : Nat)), ("text", .ref H2.length), ("capitals", .ref (H2.length + 1))] ∧ ∀ o ∈ (xs.take c').take k, o < w.first, ⟨[], rfl, rfl, by k_caughtNB, by simp⟩, fun _ _ _ => trivial, ?_, ?_⟩
  · rintro k ⟨loc, H'⟩ hk ⟨cv, hcv, eH, hl, hb⟩ o ho
    refine TAsg.opq fun Q2 hQ2 => ?_
    dsimp only at eH
    subst eH
    have hk' : k < c' := by rw [List.length_take] at hk; (first | lia | omega)
    have ho' : (xs.take c')[k]? = some o := ho
    refine TAsg.forg hl ?_
    repeat' (first | (with_reducible refine TB.not ?_) | (with_reducible refine TE.and ?_) | (with_reducible refine TB.call ?_) | ((with_reducible refine' TGet.n_bias ?k0 ?_); (case k0 => k_caughtN0)) | ((with_reducible refine' TGet.n_first ?k0 ?_); (case k0 => k_caughtN0)) | (with_reducible refine ifn (fun _ => ?_) (fun _ => ?_)) | ((with_reducible refine' TE.mapp ?k0 ?k1 ?k2 ?_ ?k4 ?k5 ?k6); (case k0 => rfl); (case k1 => rfl); (case k2 => exact ⟨_, by k_caughtN0⟩); (case k4 => intro _; rfl); (case k5 => intro _; rfl); (case k6 => rfl)) | ((with_reducible refine' TE.m_adapted ?k0 ?k1 ?k2 ?_ ?k4 ?k5 ?k6 ?k7); (case k0 => rfl); (case k1 => rfl); (case k2 => k_caughtN0); (case k4 => intro _; rfl); (case k5 => intro _ _; rfl); (case k6 => intro _; rfl); (case k7 => rfl)) | ((with_reducible refine' TS.raise ?k0 ?k1 ?k2 ?k3 ?_ ?k5 ?k6); (case k0 => rfl); (case k1 => intro P; k_is); (case k2 => exact Nat.le_add_left 3 _); (case k3 => rfl); (case k5 => intro _; rfl); (case k6 => rfl)) | (with_reducible refine TE.cut ?_) | (with_reducible refine TOpt.none ?_) | (with_reducible refine TOpt.some ?_) | ((with_reducible refine isCall ?_); (refine' CallF.of (Nat.lt_succ_self _) rfl (scalar_call ?_))) | ((with_reducible refine isCall ?_); (refine' CallF.of (Nat.lt_succ_self _) rfl (capital_call (fun _ => ?_)))) | ((with_reducible refine isCall ?_); (refine' CallF.of (Nat.lt_succ_self _) rfl (basic_call ?k0 ?_); (case k0 => k_caughtN0))) | ((with_reducible refine isCall ?_); (refine' CallF.of (Nat.lt_succ_self _) rfl (adapted_call ?k0 ?k1 ?_ ?_ ?_); (case k0 => k_caughtN0); (case k1 => assumption))) | k_caughtB | ((with_reducible refine' TS.asgS3 ?_ ?k1 ?k2 ?k3 ?k4 ?k5 ?k6); (case k1 => intro _; rfl); (case k2 => intro _; rfl); (case k3 => intro _; rfl); (case k4 => intro _ _; rfl); (case k5 => intro env e; cases env; dsimp only at e; subst e; rfl); (case k6 => rfl)))
    · rename_i z
      have : dec w xs c' = .err "basic" := by
        unfold dec
        rw [if_pos ⟨o, List.mem_of_getElem? ho', by simpa using z⟩]
      exact told_raise (P := E) (he2 _ this _)
    · refine ⟨_, get_at _ _ _, by simp only [List.length_map, List.length_take]; (first | lia | omega), ?_⟩
      refine TSs.heap (H' := H2 ++ .list (((xs.take c').take (k + 1)).map V.int) :: .list cv :: []) (by dsimp only; rw [set_at, take_succ ho', List.map_append]; rfl) ?_
      repeat' (first | (with_reducible refine TB.not ?_) | (with_reducible refine TE.and ?_) | (with_reducible refine TB.call ?_) | ((with_reducible refine' TGet.n_bias ?k0 ?_); (case k0 => k_caughtN0)) | ((with_reducible refine' TGet.n_first ?k0 ?_); (case k0 => k_caughtN0)) | (with_reducible refine ifn (fun _ => ?_) (fun _ => ?_)) | ((with_reducible refine' TE.mapp ?k0 ?k1 ?k2 ?_ ?k4 ?k5 ?k6); (case k0 => rfl); (case k1 => rfl); (case k2 => exact ⟨_, by k_caughtN0⟩); (case k4 => intro _; rfl); (case k5 => intro _; rfl); (case k6 => rfl)) | ((with_reducible refine' TE.m_adapted ?k0 ?k1 ?k2 ?_ ?k4 ?k5 ?k6 ?k7); (case k0 => rfl); (case k1 => rfl); (case k2 => k_caughtN0); (case k4 => intro _; rfl); (case k5 => intro _ _; rfl); (case k6 => intro _; rfl); (case k7 => rfl)) | ((with_reducible refine' TS.raise ?k0 ?k1 ?k2 ?k3 ?_ ?k5 ?k6); (case k0 => rfl); (case k1 => intro P; k_is); (case k2 => exact Nat.le_add_left 3 _); (case k3 => rfl); (case k5 => intro _; rfl); (case k6 => rfl)) | (with_reducible refine TE.cut ?_) | (with_reducible refine TOpt.none ?_) | (with_reducible refine TOpt.some ?_) | ((with_reducible refine isCall ?_); (refine' CallF.of (Nat.lt_succ_self _) rfl (scalar_call ?_))) | ((with_reducible refine isCall ?_); (refine' CallF.of (Nat.lt_succ_self _) rfl (capital_call (fun _ => ?_)))) | ((with_reducible refine isCall ?_); (refine' CallF.of (Nat.lt_succ_self _) rfl (basic_call ?k0 ?_); (case k0 => k_caughtN0))) | ((with_reducible refine isCall ?_); (refine' CallF.of (Nat.lt_succ_self _) rfl (adapted_call ?k0 ?k1 ?_ ?_ ?_); (case k0 => k_caughtN0); (case k1 => assumption))) | k_caughtB | ((with_reducible refine' TS.asgS3 ?_ ?k1 ?k2 ?k3 ?k4 ?k5 ?k6); (case k1 => intro _; rfl); (case k2 => intro _; rfl); (case k3 => intro _; rfl); (case k4 => intro _ _; rfl); (case k5 => intro env e; cases env; dsimp only at e; subst e; rfl); (case k6 => rfl)))
      rename_i bb
      refine ⟨_, get_at1 _ _ _ _, by (first | lia | omega), ?_⟩
      refine TSs.nil ?_
      refine hQ2 .next _ ⟨cv ++ [.bool bb], by rw [List.length_append, hcv]; rfl, by dsimp only; rw [set_at1], by k_caughtNB, ?_⟩
      rw [take_succ ho']
      intro o' h'
      rcases List.mem_append.mp h' with h' | h'
      · exact hb o' h'
      · rw [List.mem_singleton] at h'; subst h'; assumption
  · rintro ⟨loc, H'⟩ ⟨cv, hcv, eH, hl, hb⟩
    dsimp only at eH
    rw [List.take_length] at eH hb
    subst eH
    refine TSs.forg hl ?_
    repeat' (first | (with_reducible refine TB.not ?_) | (with_reducible refine TE.and ?_) | (with_reducible refine TB.call ?_) | ((with_reducible refine' TGet.n_bias ?k0 ?_); (case k0 => k_caughtN0)) | ((with_reducible refine' TGet.n_first ?k0 ?_); (case k0 => k_caughtN0)) | (with_reducible refine ifn (fun _ => ?_) (fun _ => ?_)) | ((with_reducible refine' TE.mapp ?k0 ?k1 ?k2 ?_ ?k4 ?k5 ?k6); (case k0 => rfl); (case k1 => rfl); (case k2 => exact ⟨_, by k_caughtN0⟩); (case k4 => intro _; rfl); (case k5 => intro _; rfl); (case k6 => rfl)) | ((with_reducible refine' TE.m_adapted ?k0 ?k1 ?k2 ?_ ?k4 ?k5 ?k6 ?k7); (case k0 => rfl); (case k1 => rfl); (case k2 => k_caughtN0); (case k4 => intro _; rfl); (case k5 => intro _ _; rfl); (case k6 => intro _; rfl); (case k7 => rfl)) | ((with_reducible refine' TS.raise ?k0 ?k1 ?k2 ?k3 ?_ ?k5 ?k6); (case k0 => rfl); (case k1 => intro P; k_is); (case k2 => exact Nat.le_add_left 3 _); (case k3 => rfl); (case k5 => intro _; rfl); (case k6 => rfl)) | (with_reducible refine TE.cut ?_) | (with_reducible refine TOpt.none ?_) | (with_reducible refine TOpt.some ?_) | ((with_reducible refine isCall ?_); (refine' CallF.of (Nat.lt_succ_self _) rfl (scalar_call ?_))) | ((with_reducible refine isCall ?_); (refine' CallF.of (Nat.lt_succ_self _) rfl (capital_call (fun _ => ?_)))) | ((with_reducible refine isCall ?_); (refine' CallF.of (Nat.lt_succ_self _) rfl (basic_call ?k0 ?_); (case k0 => k_caughtN0))) | ((with_reducible refine isCall ?_); (refine' CallF.of (Nat.lt_succ_self _) rfl (adapted_call ?k0 ?k1 ?_ ?_ ?_); (case k0 => k_caughtN0); (case k1 => assumption))) | k_caughtB | ((with_reducible refine' TS.asgS3 ?_ ?k1 ?k2 ?k3 ?k4 ?k5 ?k6); (case k1 => intro _; rfl); (case k2 => intro _; rfl); (case k3 => intro _; rfl); (case k4 => intro _ _; rfl); (case k5 => intro env e; cases env; dsimp only at e; subst e; rfl); (case k6 => rfl)))
    refine TS.forg (loc' := [("octets", .bytes xs), ("numbers", .ref i), ("basic", .bytes (xs.take c')), ("at", .int (a0 : Nat)), ("text", .ref H2.length), ("capitals", .ref (H2.length + 1)), ("code", .int w.first), ("index", .int 0), ("bias", .int w.bias)]) (by k_caughtNB) ?_
    have okf := ok.fs
    refine TS.while_ (DeW H2 i w xs c')
      (xs.length - a0) ⟨a0, xs.length - a0, xs.take c', cv, H2.length, H2.length + 1, w.first, 0, w.bias, true, _, rfl, by k_caughtNB, get_at _ _ _, get_at1 _ _ _ _, hcv, ha0.2, rfl, Int.le_refl _, by (first | lia | omega), by rw [List.length_take]; (first | lia | omega), by simp, Nat.le_refl _, by
        unfold dec
        rw [if_neg (fun ⟨o, h1, h2⟩ => h2 (hb o h1)), ← ea0]⟩ ?_
    rintro n ⟨loc, H'⟩ hI
    refine TB.opq fun Q1 R1 hQ1 hR1 => ?_
    refine opaq fun P kP => ?_
    obtain ⟨a, fu, page, cv', lt, lc, state, place, b, f, T, eH, hl, g1, g2, hcv', ha, rfl, p0, s0, hpa, hf, hfu, hdl⟩ := hI
    dsimp only at eH
    subst eH
    refine kP (TB.forget hl ?_)
    clear kP P
    repeat' (first | (with_reducible refine TB.not ?_) | (with_reducible refine TE.and ?_) | (with_reducible refine TB.call ?_) | ((with_reducible refine' TGet.n_bias ?k0 ?_); (case k0 => k_caughtN0)) | ((with_reducible refine' TGet.n_first ?k0 ?_); (case k0 => k_caughtN0)) | (with_reducible refine ifn (fun _ => ?_) (fun _ => ?_)) | ((with_reducible refine' TE.mapp ?k0 ?k1 ?k2 ?_ ?k4 ?k5 ?k6); (case k0 => rfl); (case k1 => rfl); (case k2 => exact ⟨_, by k_caughtN0⟩); (case k4 => intro _; rfl); (case k5 => intro _; rfl); (case k6 => rfl)) | ((with_reducible refine' TE.m_adapted ?k0 ?k1 ?k2 ?_ ?k4 ?k5 ?k6 ?k7); (case k0 => rfl); (case k1 => rfl); (case k2 => k_caughtN0); (case k4 => intro _; rfl); (case k5 => intro _ _; rfl); (case k6 => intro _; rfl); (case k7 => rfl)) | ((with_reducible refine' TS.raise ?k0 ?k1 ?k2 ?k3 ?_ ?k5 ?k6); (case k0 => rfl); (case k1 => intro P; k_is); (case k2 => exact Nat.le_add_left 3 _); (case k3 => rfl); (case k5 => intro _; rfl); (case k6 => rfl)) | (with_reducible refine TE.cut ?_) | (with_reducible refine TOpt.none ?_) | (with_reducible refine TOpt.some ?_) | ((with_reducible refine isCall ?_); (refine' CallF.of (Nat.lt_succ_self _) rfl (scalar_call ?_))) | ((with_reducible refine isCall ?_); (refine' CallF.of (Nat.lt_succ_self _) rfl (capital_call (fun _ => ?_)))) | ((with_reducible refine isCall ?_); (refine' CallF.of (Nat.lt_succ_self _) rfl (basic_call ?k0 ?_); (case k0 => k_caughtN0))) | ((with_reducible refine isCall ?_); (refine' CallF.of (Nat.lt_succ_self _) rfl (adapted_call ?k0 ?k1 ?_ ?_ ?_); (case k0 => k_caughtN0); (case k1 => assumption))) | k_caughtB | ((with_reducible refine' TS.asgS3 ?_ ?k1 ?k2 ?k3 ?k4 ?k5 ?k6); (case k1 => intro _; rfl); (case k2 => intro _; rfl); (case k3 => intro _; rfl); (case k4 => intro _ _; rfl); (case k5 => intro env e; cases env; dsimp only at e; subst e; rfl); (case k6 => rfl)))
    · rename_i ca
      have ca' : a < xs.length := by simpa using ca
      refine CallF.of (Nat.lt_succ_self _) rfl (numat_call (N2.mono _) ok (by (first | lia | omega)) (fun v m hr T3 => ?_) fun s hr j T3 hT => ?_)
      · obtain ⟨r1, r2, r3⟩ := rd_ok ok _ _ _ _ _ _ _ hr
        rw [List.length_drop] at r2
        refine TAsg.tupRef (get_at _ _ []) ?_ rfl (by intro _; rfl) (by intro _; rfl)
        refine TAsgs.heap (H' := H2 ++ (T ++ T3 ++ [O.tuple [.int v, .int (a + m : Nat)]])) (by simp) ?_
        have g1' : (H2 ++ (T ++ T3 ++ [O.tuple [.int v, .int (a + m : Nat)]]))[lt]? = some (.list (page.map V.int)) := by rw [← List.append_assoc, ← List.append_assoc]; exact get_left (get_left g1 _) _
        have g2' : (H2 ++ (T ++ T3 ++ [O.tuple [.int v, .int (a + m : Nat)]]))[lc]? = some (.list cv') := by rw [← List.append_assoc, ← List.append_assoc]; exact get_left (get_left g2 _) _
        clear g1 g2
        generalize T ++ T3 ++ [O.tuple [.int v, .int (a + m : Nat)]] = T4 at *
        iterate 7 (first | (with_reducible refine TB.not ?_) | (with_reducible refine TE.and ?_) | (with_reducible refine TB.call ?_) | ((with_reducible refine' TGet.n_bias ?k0 ?_); (case k0 => k_caughtN0)) | ((with_reducible refine' TGet.n_first ?k0 ?_); (case k0 => k_caughtN0)) | (with_reducible refine ifn (fun _ => ?_) (fun _ => ?_)) | ((with_reducible refine' TE.mapp ?k0 ?k1 ?k2 ?_ ?k4 ?k5 ?k6); (case k0 => rfl); (case k1 => rfl); (case k2 => exact ⟨_, by k_caughtN0⟩); (case k4 => intro _; rfl); (case k5 => intro _; rfl); (case k6 => rfl)) | ((with_reducible refine' TE.m_adapted ?k0 ?k1 ?k2 ?_ ?k4 ?k5 ?k6 ?k7); (case k0 => rfl); (case k1 => rfl); (case k2 => k_caughtN0); (case k4 => intro _; rfl); (case k5 => intro _ _; rfl); (case k6 => intro _; rfl); (case k7 => rfl)) | ((with_reducible refine' TS.raise ?k0 ?k1 ?k2 ?k3 ?_ ?k5 ?k6); (case k0 => rfl); (case k1 => intro P; k_is); (case k2 => exact Nat.le_add_left 3 _); (case k3 => rfl); (case k5 => intro _; rfl); (case k6 => rfl)) | (with_reducible refine TE.cut ?_) | (with_reducible refine TOpt.none ?_) | (with_reducible refine TOpt.some ?_) | ((with_reducible refine isCall ?_); (refine' CallF.of (Nat.lt_succ_self _) rfl (scalar_call ?_))) | ((with_reducible refine isCall ?_); (refine' CallF.of (Nat.lt_succ_self _) rfl (capital_call (fun _ => ?_)))) | ((with_reducible refine isCall ?_); (refine' CallF.of (Nat.lt_succ_self _) rfl (basic_call ?k0 ?_); (case k0 => k_caughtN0))) | ((with_reducible refine isCall ?_); (refine' CallF.of (Nat.lt_succ_self _) rfl (adapted_call ?k0 ?k1 ?_ ?_ ?_); (case k0 => k_caughtN0); (case k1 => assumption))) | k_caughtB | ((with_reducible refine' TS.asgS3 ?_ ?k1 ?k2 ?k3 ?k4 ?k5 ?k6); (case k1 => intro _; rfl); (case k2 => intro _; rfl); (case k3 => intro _; rfl); (case k4 => intro _ _; rfl); (case k5 => intro env e; cases env; dsimp only at e; subst e; rfl); (case k6 => rfl)))
        have r3' : 0 ≤ v := r3 (by decide)
        have hml : (page.map V.int).length = page.length := List.length_map ..
        refine TSs.cut1 (fun σ => σ.H = H2 ++ T4 ∧ Has σ.loc [("octets", .bytes xs), ("numbers", .ref i), ("basic", .bytes (xs.take c')), ("at", .int (a + m : Nat)), ("text", .ref lt), ("capitals", .ref lc), ("code", .int state), ("index", .int place), ("bias", .int b), ("delta", .int v), ("many", .int (page.length + 1 : Nat))]) (TS.opq fun Q4 hQ4 => ?_) ?_
        · repeat' (first | (with_reducible refine TB.not ?_) | (with_reducible refine TE.and ?_) | (with_reducible refine TB.call ?_) | ((with_reducible refine' TGet.n_bias ?k0 ?_); (case k0 => k_caughtN0)) | ((with_reducible refine' TGet.n_first ?k0 ?_); (case k0 => k_caughtN0)) | (with_reducible refine ifn (fun _ => ?_) (fun _ => ?_)) | ((with_reducible refine' TE.mapp ?k0 ?k1 ?k2 ?_ ?k4 ?k5 ?k6); (case k0 => rfl); (case k1 => rfl); (case k2 => exact ⟨_, by k_caughtN0⟩); (case k4 => intro _; rfl); (case k5 => intro _; rfl); (case k6 => rfl)) | ((with_reducible refine' TE.m_adapted ?k0 ?k1 ?k2 ?_ ?k4 ?k5 ?k6 ?k7); (case k0 => rfl); (case k1 => rfl); (case k2 => k_caughtN0); (case k4 => intro _; rfl); (case k5 => intro _ _; rfl); (case k6 => intro _; rfl); (case k7 => rfl)) | ((with_reducible refine' TS.raise ?k0 ?k1 ?k2 ?k3 ?_ ?k5 ?k6); (case k0 => rfl); (case k1 => intro P; k_is); (case k2 => exact Nat.le_add_left 3 _); (case k3 => rfl); (case k5 => intro _; rfl); (case k6 => rfl)) | (with_reducible refine TE.cut ?_) | (with_reducible refine TOpt.none ?_) | (with_reducible refine TOpt.some ?_) | ((with_reducible refine isCall ?_); (refine' CallF.of (Nat.lt_succ_self _) rfl (scalar_call ?_))) | ((with_reducible refine isCall ?_); (refine' CallF.of (Nat.lt_succ_self _) rfl (capital_call (fun _ => ?_)))) | ((with_reducible refine isCall ?_); (refine' CallF.of (Nat.lt_succ_self _) rfl (basic_call ?k0 ?_); (case k0 => k_caughtN0))) | ((with_reducible refine isCall ?_); (refine' CallF.of (Nat.lt_succ_self _) rfl (adapted_call ?k0 ?k1 ?_ ?_ ?_); (case k0 => k_caughtN0); (case k1 => assumption))) | k_caughtB | ((with_reducible refine' TS.asgS3 ?_ ?k1 ?k2 ?k3 ?k4 ?k5 ?k6); (case k1 => intro _; rfl); (case k2 => intro _; rfl); (case k3 => intro _; rfl); (case k4 => intro _ _; rfl); (case k5 => intro env e; cases env; dsimp only at e; subst e; rfl); (case k6 => rfl)))
          refine hQ4 .next _ ⟨rfl, ?_⟩
          rw [hml]
          k_caughtNB
        rintro ⟨loc, H'⟩ ⟨eH, hl⟩
        dsimp only at eH
        subst eH
        refine TSs.forg hl ?_
        refine TSs.cut1 (fun σ => σ.H = H2 ++ T4 ∧ Has σ.loc [("octets", .bytes xs), ("numbers", .ref i), ("basic", .bytes (xs.take c')), ("at", .int (a + m : Nat)), ("text", .ref lt), ("capitals", .ref lc), ("code", .int state), ("index", .int place), ("bias", .int (ad w v (page.length + 1 : Nat) f)), ("delta", .int v), ("many", .int (page.length + 1 : Nat))]) (TS.opq fun Q4 hQ4 => ?_) ?_
        · repeat' (first | (with_reducible refine TB.not ?_) | (with_reducible refine TE.and ?_) | (with_reducible refine TB.call ?_) | ((with_reducible refine' TGet.n_bias ?k0 ?_); (case k0 => k_caughtN0)) | ((with_reducible refine' TGet.n_first ?k0 ?_); (case k0 => k_caughtN0)) | (with_reducible refine ifn (fun _ => ?_) (fun _ => ?_)) | ((with_reducible refine' TE.mapp ?k0 ?k1 ?k2 ?_ ?k4 ?k5 ?k6); (case k0 => rfl); (case k1 => rfl); (case k2 => exact ⟨_, by k_caughtN0⟩); (case k4 => intro _; rfl); (case k5 => intro _; rfl); (case k6 => rfl)) | ((with_reducible refine' TE.m_adapted ?k0 ?k1 ?k2 ?_ ?k4 ?k5 ?k6 ?k7); (case k0 => rfl); (case k1 => rfl); (case k2 => k_caughtN0); (case k4 => intro _; rfl); (case k5 => intro _ _; rfl); (case k6 => intro _; rfl); (case k7 => rfl)) | ((with_reducible refine' TS.raise ?k0 ?k1 ?k2 ?k3 ?_ ?k5 ?k6); (case k0 => rfl); (case k1 => intro P; k_is); (case k2 => exact Nat.le_add_left 3 _); (case k3 => rfl); (case k5 => intro _; rfl); (case k6 => rfl)) | (with_reducible refine TE.cut ?_) | (with_reducible refine TOpt.none ?_) | (with_reducible refine TOpt.some ?_) | ((with_reducible refine isCall ?_); (refine' CallF.of (Nat.lt_succ_self _) rfl (scalar_call ?_))) | ((with_reducible refine isCall ?_); (refine' CallF.of (Nat.lt_succ_self _) rfl (capital_call (fun _ => ?_)))) | ((with_reducible refine isCall ?_); (refine' CallF.of (Nat.lt_succ_self _) rfl (basic_call ?k0 ?_); (case k0 => k_caughtN0))) | ((with_reducible refine isCall ?_); (refine' CallF.of (Nat.lt_succ_self _) rfl (adapted_call ?k0 ?k1 ?_ ?_ ?_); (case k0 => k_caughtN0); (case k1 => assumption))) | k_caughtB | ((with_reducible refine' TS.asgS3 ?_ ?k1 ?k2 ?k3 ?k4 ?k5 ?k6); (case k1 => intro _; rfl); (case k2 => intro _; rfl); (case k3 => intro _; rfl); (case k4 => intro _ _; rfl); (case k5 => intro env e; cases env; dsimp only at e; subst e; rfl); (case k6 => rfl)))
          · (first | lia | omega)
          · (first | lia | omega)
          · rename_i z
            rw [show decide (((page.map V.int).length : Int) = (xs.take c').length) = f from by rw [hf, decide_eq_decide, hml]; (first | lia | omega)]
            refine hQ4 .next _ ⟨rfl, ?_⟩
            k_caughtNB
          · (first | lia | omega)
          · (first | lia | omega)
          · rename_i z
            rw [show decide (place = 0) = f from by rw [hf, decide_eq_decide]; (first | lia | omega)]
            refine hQ4 .next _ ⟨rfl, ?_⟩
            k_caughtNB
        rintro ⟨loc, H'⟩ ⟨eH, hl⟩
        dsimp only at eH
        subst eH
        refine TSs.forg hl ?_
        obtain ⟨fu', rfl⟩ : ∃ k, fu = k + 1 := ⟨fu - 1, by (first | lia | omega)⟩
        rw [dls, if_neg (by rw [List.drop_eq_nil_iff]; (first | lia | omega)), hr] at hdl
        dsimp only at hdl
        have hmod := Int.emod_nonneg (place + v) (show ((page.length + 1 : Nat) : Int) ≠ 0 by (first | lia | omega))
        have hmod' := Int.emod_lt_of_pos (place + v) (show 0 < ((page.length + 1 : Nat) : Int) by (first | lia | omega))
        have hdv := Int.ediv_nonneg (show 0 ≤ place + v by (first | lia | omega)) (show 0 ≤ ((page.length + 1 : Nat) : Int) by (first | lia | omega))
        repeat' (first | (with_reducible refine TB.not ?_) | (with_reducible refine TE.and ?_) | (with_reducible refine TB.call ?_) | ((with_reducible refine' TGet.n_bias ?k0 ?_); (case k0 => k_caughtN0)) | ((with_reducible refine' TGet.n_first ?k0 ?_); (case k0 => k_caughtN0)) | (with_reducible refine ifn (fun _ => ?_) (fun _ => ?_)) | ((with_reducible refine' TE.mapp ?k0 ?k1 ?k2 ?_ ?k4 ?k5 ?k6); (case k0 => rfl); (case k1 => rfl); (case k2 => exact ⟨_, by k_caughtN0⟩); (case k4 => intro _; rfl); (case k5 => intro _; rfl); (case k6 => rfl)) | ((with_reducible refine' TE.m_adapted ?k0 ?k1 ?k2 ?_ ?k4 ?k5 ?k6 ?k7); (case k0 => rfl); (case k1 => rfl); (case k2 => k_caughtN0); (case k4 => intro _; rfl); (case k5 => intro _ _; rfl); (case k6 => intro _; rfl); (case k7 => rfl)) | ((with_reducible refine' TS.raise ?k0 ?k1 ?k2 ?k3 ?_ ?k5 ?k6); (case k0 => rfl); (case k1 => intro P; k_is); (case k2 => exact Nat.le_add_left 3 _); (case k3 => rfl); (case k5 => intro _; rfl); (case k6 => rfl)) | (with_reducible refine TE.cut ?_) | (with_reducible refine TOpt.none ?_) | (with_reducible refine TOpt.some ?_) | ((with_reducible refine isCall ?_); (refine' CallF.of (Nat.lt_succ_self _) rfl (scalar_call ?_))) | ((with_reducible refine isCall ?_); (refine' CallF.of (Nat.lt_succ_self _) rfl (capital_call (fun _ => ?_)))) | ((with_reducible refine isCall ?_); (refine' CallF.of (Nat.lt_succ_self _) rfl (basic_call ?k0 ?_); (case k0 => k_caughtN0))) | ((with_reducible refine isCall ?_); (refine' CallF.of (Nat.lt_succ_self _) rfl (adapted_call ?k0 ?k1 ?_ ?_ ?_); (case k0 => k_caughtN0); (case k1 => assumption))) | k_caughtB | ((with_reducible refine' TS.asgS3 ?_ ?k1 ?k2 ?k3 ?k4 ?k5 ?k6); (case k1 => intro _; rfl); (case k2 => intro _; rfl); (case k3 => intro _; rfl); (case k4 => intro _ _; rfl); (case k5 => intro env e; cases env; dsimp only at e; subst e; rfl); (case k6 => rfl)))
        · rename_i z
          rw [if_pos (by (first | lia | omega))] at hdl
          exact told_raise (P := E) (he2 _ hdl.symm _)
        · rename_i z z2
          rw [if_neg (by (first | lia | omega)), if_pos (by (first | lia | omega))] at hdl
          exact told_raise (P := E) (he2 _ hdl.symm _)
        · rename_i z z2
          have pt : pickV (page.map V.int) none (some ((place + v) % ((page.length + 1 : Nat) : Int))) = (page.take ((place + v) % ((page.length + 1 : Nat) : Int)).toNat).map V.int := by
            rw [pick_take hmod (by (first | lia | omega)), List.map_take]
          have pd : pickV (page.map V.int) (some ((place + v) % ((page.length + 1 : Nat) : Int))) none = (page.drop ((place + v) % ((page.length + 1 : Nat) : Int)).toNat).map V.int := by
            rw [pick_drop hmod (by (first | lia | omega)), List.map_drop]
          have qt : (pickV cv' none (some ((place + v) % ((page.length + 1 : Nat) : Int)))).length = ((place + v) % ((page.length + 1 : Nat) : Int)).toNat := by
            rw [pick_take hmod (by (first | lia | omega)), List.length_take]; (first | lia | omega)
          have qd : (pickV cv' (some ((place + v) % ((page.length + 1 : Nat) : Int))) none).length = page.length - ((place + v) % ((page.length + 1 : Nat) : Int)).toNat := by
            rw [pick_drop hmod (by (first | lia | omega)), List.length_drop]; (first | lia | omega)
          refine TCut.list g1' ?_ (by intro _ _; rfl) (by intro _ _; rfl)
          rw [pt]
          repeat' (first | (with_reducible refine TB.not ?_) | (with_reducible refine TE.and ?_) | (with_reducible refine TB.call ?_) | ((with_reducible refine' TGet.n_bias ?k0 ?_); (case k0 => k_caughtN0)) | ((with_reducible refine' TGet.n_first ?k0 ?_); (case k0 => k_caughtN0)) | (with_reducible refine ifn (fun _ => ?_) (fun _ => ?_)) | ((with_reducible refine' TE.mapp ?k0 ?k1 ?k2 ?_ ?k4 ?k5 ?k6); (case k0 => rfl); (case k1 => rfl); (case k2 => exact ⟨_, by k_caughtN0⟩); (case k4 => intro _; rfl); (case k5 => intro _; rfl); (case k6 => rfl)) | ((with_reducible refine' TE.m_adapted ?k0 ?k1 ?k2 ?_ ?k4 ?k5 ?k6 ?k7); (case k0 => rfl); (case k1 => rfl); (case k2 => k_caughtN0); (case k4 => intro _; rfl); (case k5 => intro _ _; rfl); (case k6 => intro _; rfl); (case k7 => rfl)) | ((with_reducible refine' TS.raise ?k0 ?k1 ?k2 ?k3 ?_ ?k5 ?k6); (case k0 => rfl); (case k1 => intro P; k_is); (case k2 => exact Nat.le_add_left 3 _); (case k3 => rfl); (case k5 => intro _; rfl); (case k6 => rfl)) | (with_reducible refine TE.cut ?_) | (with_reducible refine TOpt.none ?_) | (with_reducible refine TOpt.some ?_) | ((with_reducible refine isCall ?_); (refine' CallF.of (Nat.lt_succ_self _) rfl (scalar_call ?_))) | ((with_reducible refine isCall ?_); (refine' CallF.of (Nat.lt_succ_self _) rfl (capital_call (fun _ => ?_)))) | ((with_reducible refine isCall ?_); (refine' CallF.of (Nat.lt_succ_self _) rfl (basic_call ?k0 ?_); (case k0 => k_caughtN0))) | ((with_reducible refine isCall ?_); (refine' CallF.of (Nat.lt_succ_self _) rfl (adapted_call ?k0 ?k1 ?_ ?_ ?_); (case k0 => k_caughtN0); (case k1 => assumption))) | k_caughtB | ((with_reducible refine' TS.asgS3 ?_ ?k1 ?k2 ?k3 ?k4 ?k5 ?k6); (case k1 => intro _; rfl); (case k2 => intro _; rfl); (case k3 => intro _; rfl); (case k4 => intro _ _; rfl); (case k5 => intro env e; cases env; dsimp only at e; subst e; rfl); (case k6 => rfl)))
          refine Op2.addL (get_left (get_at _ _ []) _) (get_at _ _ []) (by simp; (first | lia | omega)) ?_
          repeat' (first | (with_reducible refine TB.not ?_) | (with_reducible refine TE.and ?_) | (with_reducible refine TB.call ?_) | ((with_reducible refine' TGet.n_bias ?k0 ?_); (case k0 => k_caughtN0)) | ((with_reducible refine' TGet.n_first ?k0 ?_); (case k0 => k_caughtN0)) | (with_reducible refine ifn (fun _ => ?_) (fun _ => ?_)) | ((with_reducible refine' TE.mapp ?k0 ?k1 ?k2 ?_ ?k4 ?k5 ?k6); (case k0 => rfl); (case k1 => rfl); (case k2 => exact ⟨_, by k_caughtN0⟩); (case k4 => intro _; rfl); (case k5 => intro _; rfl); (case k6 => rfl)) | ((with_reducible refine' TE.m_adapted ?k0 ?k1 ?k2 ?_ ?k4 ?k5 ?k6 ?k7); (case k0 => rfl); (case k1 => rfl); (case k2 => k_caughtN0); (case k4 => intro _; rfl); (case k5 => intro _ _; rfl); (case k6 => intro _; rfl); (case k7 => rfl)) | ((with_reducible refine' TS.raise ?k0 ?k1 ?k2 ?k3 ?_ ?k5 ?k6); (case k0 => rfl); (case k1 => intro P; k_is); (case k2 => exact Nat.le_add_left 3 _); (case k3 => rfl); (case k5 => intro _; rfl); (case k6 => rfl)) | (with_reducible refine TE.cut ?_) | (with_reducible refine TOpt.none ?_) | (with_reducible refine TOpt.some ?_) | ((with_reducible refine isCall ?_); (refine' CallF.of (Nat.lt_succ_self _) rfl (scalar_call ?_))) | ((with_reducible refine isCall ?_); (refine' CallF.of (Nat.lt_succ_self _) rfl (capital_call (fun _ => ?_)))) | ((with_reducible refine isCall ?_); (refine' CallF.of (Nat.lt_succ_self _) rfl (basic_call ?k0 ?_); (case k0 => k_caughtN0))) | ((with_reducible refine isCall ?_); (refine' CallF.of (Nat.lt_succ_self _) rfl (adapted_call ?k0 ?k1 ?_ ?_ ?_); (case k0 => k_caughtN0); (case k1 => assumption))) | k_caughtB | ((with_reducible refine' TS.asgS3 ?_ ?k1 ?k2 ?k3 ?k4 ?k5 ?k6); (case k1 => intro _; rfl); (case k2 => intro _; rfl); (case k3 => intro _; rfl); (case k4 => intro _ _; rfl); (case k5 => intro env e; cases env; dsimp only at e; subst e; rfl); (case k6 => rfl)))
          refine TCut.list (get_left (get_left (get_left g1' _) _) _) ?_ (by intro _ _; rfl) (by intro _ _; rfl)
          rw [pd]
          refine Op2.addL (get_left (get_at _ _ []) _) (get_at _ _ []) (by simp; (first | lia | omega)) ?_
          refine TAsg.norm (H2 := H2) ⟨_, by simp only [List.append_assoc]; rfl⟩ fun l5 T5 g5 gk => ?_
          have g2'' := gk _ _ (get_left (get_left (get_left (get_left g2' _) _) _) _)
          clear gk
          repeat' (first | (with_reducible refine TB.not ?_) | (with_reducible refine TE.and ?_) | (with_reducible refine TB.call ?_) | ((with_reducible refine' TGet.n_bias ?k0 ?_); (case k0 => k_caughtN0)) | ((with_reducible refine' TGet.n_first ?k0 ?_); (case k0 => k_caughtN0)) | (with_reducible refine ifn (fun _ => ?_) (fun _ => ?_)) | ((with_reducible refine' TE.mapp ?k0 ?k1 ?k2 ?_ ?k4 ?k5 ?k6); (case k0 => rfl); (case k1 => rfl); (case k2 => exact ⟨_, by k_caughtN0⟩); (case k4 => intro _; rfl); (case k5 => intro _; rfl); (case k6 => rfl)) | ((with_reducible refine' TE.m_adapted ?k0 ?k1 ?k2 ?_ ?k4 ?k5 ?k6 ?k7); (case k0 => rfl); (case k1 => rfl); (case k2 => k_caughtN0); (case k4 => intro _; rfl); (case k5 => intro _ _; rfl); (case k6 => intro _; rfl); (case k7 => rfl)) | ((with_reducible refine' TS.raise ?k0 ?k1 ?k2 ?k3 ?_ ?k5 ?k6); (case k0 => rfl); (case k1 => intro P; k_is); (case k2 => exact Nat.le_add_left 3 _); (case k3 => rfl); (case k5 => intro _; rfl); (case k6 => rfl)) | (with_reducible refine TE.cut ?_) | (with_reducible refine TOpt.none ?_) | (with_reducible refine TOpt.some ?_) | ((with_reducible refine isCall ?_); (refine' CallF.of (Nat.lt_succ_self _) rfl (scalar_call ?_))) | ((with_reducible refine isCall ?_); (refine' CallF.of (Nat.lt_succ_self _) rfl (capital_call (fun _ => ?_)))) | ((with_reducible refine isCall ?_); (refine' CallF.of (Nat.lt_succ_self _) rfl (basic_call ?k0 ?_); (case k0 => k_caughtN0))) | ((with_reducible refine isCall ?_); (refine' CallF.of (Nat.lt_succ_self _) rfl (adapted_call ?k0 ?k1 ?_ ?_ ?_); (case k0 => k_caughtN0); (case k1 => assumption))) | k_caughtB | ((with_reducible refine' TS.asgS3 ?_ ?k1 ?k2 ?k3 ?k4 ?k5 ?k6); (case k1 => intro _; rfl); (case k2 => intro _; rfl); (case k3 => intro _; rfl); (case k4 => intro _ _; rfl); (case k5 => intro env e; cases env; dsimp only at e; subst e; rfl); (case k6 => rfl)))
          refine TCut.list g2'' ?_ (by intro _ _; rfl) (by intro _ _; rfl)
          repeat' (first | (with_reducible refine TB.not ?_) | (with_reducible refine TE.and ?_) | (with_reducible refine TB.call ?_) | ((with_reducible refine' TGet.n_bias ?k0 ?_); (case k0 => k_caughtN0)) | ((with_reducible refine' TGet.n_first ?k0 ?_); (case k0 => k_caughtN0)) | (with_reducible refine ifn (fun _ => ?_) (fun _ => ?_)) | ((with_reducible refine' TE.mapp ?k0 ?k1 ?k2 ?_ ?k4 ?k5 ?k6); (case k0 => rfl); (case k1 => rfl); (case k2 => exact ⟨_, by k_caughtN0⟩); (case k4 => intro _; rfl); (case k5 => intro _; rfl); (case k6 => rfl)) | ((with_reducible refine' TE.m_adapted ?k0 ?k1 ?k2 ?_ ?k4 ?k5 ?k6 ?k7); (case k0 => rfl); (case k1 => rfl); (case k2 => k_caughtN0); (case k4 => intro _; rfl); (case k5 => intro _ _; rfl); (case k6 => intro _; rfl); (case k7 => rfl)) | ((with_reducible refine' TS.raise ?k0 ?k1 ?k2 ?k3 ?_ ?k5 ?k6); (case k0 => rfl); (case k1 => intro P; k_is); (case k2 => exact Nat.le_add_left 3 _); (case k3 => rfl); (case k5 => intro _; rfl); (case k6 => rfl)) | (with_reducible refine TE.cut ?_) | (with_reducible refine TOpt.none ?_) | (with_reducible refine TOpt.some ?_) | ((with_reducible refine isCall ?_); (refine' CallF.of (Nat.lt_succ_self _) rfl (scalar_call ?_))) | ((with_reducible refine isCall ?_); (refine' CallF.of (Nat.lt_succ_self _) rfl (capital_call (fun _ => ?_)))) | ((with_reducible refine isCall ?_); (refine' CallF.of (Nat.lt_succ_self _) rfl (basic_call ?k0 ?_); (case k0 => k_caughtN0))) | ((with_reducible refine isCall ?_); (refine' CallF.of (Nat.lt_succ_self _) rfl (adapted_call ?k0 ?k1 ?_ ?_ ?_); (case k0 => k_caughtN0); (case k1 => assumption))) | k_caughtB | ((with_reducible refine' TS.asgS3 ?_ ?k1 ?k2 ?k3 ?k4 ?k5 ?k6); (case k1 => intro _; rfl); (case k2 => intro _; rfl); (case k3 => intro _; rfl); (case k4 => intro _ _; rfl); (case k5 => intro env e; cases env; dsimp only at e; subst e; rfl); (case k6 => rfl)))
          rename_i bb
          refine Op2.addL (get_left (get_at _ _ []) _) (get_at _ _ []) (by rw [qt]; simp only [List.length_cons, List.length_nil]; (first | lia | omega)) ?_
          repeat' (first | (with_reducible refine TB.not ?_) | (with_reducible refine TE.and ?_) | (with_reducible refine TB.call ?_) | ((with_reducible refine' TGet.n_bias ?k0 ?_); (case k0 => k_caughtN0)) | ((with_reducible refine' TGet.n_first ?k0 ?_); (case k0 => k_caughtN0)) | (with_reducible refine ifn (fun _ => ?_) (fun _ => ?_)) | ((with_reducible refine' TE.mapp ?k0 ?k1 ?k2 ?_ ?k4 ?k5 ?k6); (case k0 => rfl); (case k1 => rfl); (case k2 => exact ⟨_, by k_caughtN0⟩); (case k4 => intro _; rfl); (case k5 => intro _; rfl); (case k6 => rfl)) | ((with_reducible refine' TE.m_adapted ?k0 ?k1 ?k2 ?_ ?k4 ?k5 ?k6 ?k7); (case k0 => rfl); (case k1 => rfl); (case k2 => k_caughtN0); (case k4 => intro _; rfl); (case k5 => intro _ _; rfl); (case k6 => intro _; rfl); (case k7 => rfl)) | ((with_reducible refine' TS.raise ?k0 ?k1 ?k2 ?k3 ?_ ?k5 ?k6); (case k0 => rfl); (case k1 => intro P; k_is); (case k2 => exact Nat.le_add_left 3 _); (case k3 => rfl); (case k5 => intro _; rfl); (case k6 => rfl)) | (with_reducible refine TE.cut ?_) | (with_reducible refine TOpt.none ?_) | (with_reducible refine TOpt.some ?_) | ((with_reducible refine isCall ?_); (refine' CallF.of (Nat.lt_succ_self _) rfl (scalar_call ?_))) | ((with_reducible refine isCall ?_); (refine' CallF.of (Nat.lt_succ_self _) rfl (capital_call (fun _ => ?_)))) | ((with_reducible refine isCall ?_); (refine' CallF.of (Nat.lt_succ_self _) rfl (basic_call ?k0 ?_); (case k0 => k_caughtN0))) | ((with_reducible refine isCall ?_); (refine' CallF.of (Nat.lt_succ_self _) rfl (adapted_call ?k0 ?k1 ?_ ?_ ?_); (case k0 => k_caughtN0); (case k1 => assumption))) | k_caughtB | ((with_reducible refine' TS.asgS3 ?_ ?k1 ?k2 ?k3 ?k4 ?k5 ?k6); (case k1 => intro _; rfl); (case k2 => intro _; rfl); (case k3 => intro _; rfl); (case k4 => intro _ _; rfl); (case k5 => intro env e; cases env; dsimp only at e; subst e; rfl); (case k6 => rfl)))
          refine TCut.list (get_left (get_left (get_left g2'' _) _) _) ?_ (by intro _ _; rfl) (by intro _ _; rfl)
          refine Op2.addL (get_left (get_at _ _ []) _) (get_at _ _ []) (by rw [List.length_append, qt, qd]; simp only [List.length_cons, List.length_nil]; (first | lia | omega)) ?_
          refine TAsg.norm (H2 := H2) ⟨_, by simp only [List.append_assoc]; rfl⟩ fun l6 T6 g6 gk => ?_
          have g5' := gk _ _ (get_left (get_left (get_left (get_left g5 _) _) _) _)
          clear gk
          repeat' (first | (with_reducible refine TB.not ?_) | (with_reducible refine TE.and ?_) | (with_reducible refine TB.call ?_) | ((with_reducible refine' TGet.n_bias ?k0 ?_); (case k0 => k_caughtN0)) | ((with_reducible refine' TGet.n_first ?k0 ?_); (case k0 => k_caughtN0)) | (with_reducible refine ifn (fun _ => ?_) (fun _ => ?_)) | ((with_reducible refine' TE.mapp ?k0 ?k1 ?k2 ?_ ?k4 ?k5 ?k6); (case k0 => rfl); (case k1 => rfl); (case k2 => exact ⟨_, by k_caughtN0⟩); (case k4 => intro _; rfl); (case k5 => intro _; rfl); (case k6 => rfl)) | ((with_reducible refine' TE.m_adapted ?k0 ?k1 ?k2 ?_ ?k4 ?k5 ?k6 ?k7); (case k0 => rfl); (case k1 => rfl); (case k2 => k_caughtN0); (case k4 => intro _; rfl); (case k5 => intro _ _; rfl); (case k6 => intro _; rfl); (case k7 => rfl)) | ((with_reducible refine' TS.raise ?k0 ?k1 ?k2 ?k3 ?_ ?k5 ?k6); (case k0 => rfl); (case k1 => intro P; k_is); (case k2 => exact Nat.le_add_left 3 _); (case k3 => rfl); (case k5 => intro _; rfl); (case k6 => rfl)) | (with_reducible refine TE.cut ?_) | (with_reducible refine TOpt.none ?_) | (with_reducible refine TOpt.some ?_) | ((with_reducible refine isCall ?_); (refine' CallF.of (Nat.lt_succ_self _) rfl (scalar_call ?_))) | ((with_reducible refine isCall ?_); (refine' CallF.of (Nat.lt_succ_self _) rfl (capital_call (fun _ => ?_)))) | ((with_reducible refine isCall ?_); (refine' CallF.of (Nat.lt_succ_self _) rfl (basic_call ?k0 ?_); (case k0 => k_caughtN0))) | ((with_reducible refine isCall ?_); (refine' CallF.of (Nat.lt_succ_self _) rfl (adapted_call ?k0 ?k1 ?_ ?_ ?_); (case k0 => k_caughtN0); (case k1 => assumption))) | k_caughtB | ((with_reducible refine' TS.asgS3 ?_ ?k1 ?k2 ?k3 ?k4 ?k5 ?k6); (case k1 => intro _; rfl); (case k2 => intro _; rfl); (case k3 => intro _; rfl); (case k4 => intro _ _; rfl); (case k5 => intro env e; cases env; dsimp only at e; subst e; rfl); (case k6 => rfl)))
          rw [if_neg (by (first | lia | omega)), if_neg (by (first | lia | omega)), List.drop_drop] at hdl
          refine hQ1 .next _ ⟨xs.length - (a + m), by (first | lia | omega), a + m, fu', _, _, l5, l6, _, _, _, _, T6, rfl, ?_, ?_, g6, ?_, by (first | lia | omega), rfl, ?_, ?_, ?_, ?_, by (first | lia | omega), hdl⟩
          · k_caughtNB
          · rw [g5', List.map_append, List.map_append]; rfl
          · rw [List.length_append, List.length_append, qt, qd]
            simp only [List.length_append, List.length_take, List.length_drop, List.length_cons, List.length_nil]
            (first | lia | omega)
          · (first | lia | omega)
          · (first | lia | omega)
          · simp only [List.length_append, List.length_take, List.length_drop, List.length_cons, List.length_nil]
            (first | lia | omega)
          · exact (decide_eq_false (by (first | lia | omega))).symm
      · exact he2 _ (by
          obtain ⟨fu', rfl⟩ : ∃ k, fu = k + 1 := ⟨fu - 1, by (first | lia | omega)⟩
          rw [dls, if_neg (by rw [List.drop_eq_nil_iff]; (first | lia | omega)), hr] at hdl
          exact hdl.symm) _ _ _ hT
    · rename_i ca
      have ca' : ¬ a < xs.length := by simpa using ca
      rw [show xs.drop a = [] from List.drop_eq_nil_iff.mpr (by (first | lia | omega))] at hdl
      have hok : dec w xs c' = .ok page := by
        rw [← hdl]
        cases fu <;> rfl
      refine hR1 _ ?_
      repeat' (first | (with_reducible refine TB.not ?_) | (with_reducible refine TE.and ?_) | (with_reducible refine TB.call ?_) | ((with_reducible refine' TGet.n_bias ?k0 ?_); (case k0 => k_caughtN0)) | ((with_reducible refine' TGet.n_first ?k0 ?_); (case k0 => k_caughtN0)) | (with_reducible refine ifn (fun _ => ?_) (fun _ => ?_)) | ((with_reducible refine' TE.mapp ?k0 ?k1 ?k2 ?_ ?k4 ?k5 ?k6); (case k0 => rfl); (case k1 => rfl); (case k2 => exact ⟨_, by k_caughtN0⟩); (case k4 => intro _; rfl); (case k5 => intro _; rfl); (case k6 => rfl)) | ((with_reducible refine' TE.m_adapted ?k0 ?k1 ?k2 ?_ ?k4 ?k5 ?k6 ?k7); (case k0 => rfl); (case k1 => rfl); (case k2 => k_caughtN0); (case k4 => intro _; rfl); (case k5 => intro _ _; rfl); (case k6 => intro _; rfl); (case k7 => rfl)) | ((with_reducible refine' TS.raise ?k0 ?k1 ?k2 ?k3 ?_ ?k5 ?k6); (case k0 => rfl); (case k1 => intro P; k_is); (case k2 => exact Nat.le_add_left 3 _); (case k3 => rfl); (case k5 => intro _; rfl); (case k6 => rfl)) | (with_reducible refine TE.cut ?_) | (with_reducible refine TOpt.none ?_) | (with_reducible refine TOpt.some ?_) | ((with_reducible refine isCall ?_); (refine' CallF.of (Nat.lt_succ_self _) rfl (scalar_call ?_))) | ((with_reducible refine isCall ?_); (refine' CallF.of (Nat.lt_succ_self _) rfl (capital_call (fun _ => ?_)))) | ((with_reducible refine isCall ?_); (refine' CallF.of (Nat.lt_succ_self _) rfl (basic_call ?k0 ?_); (case k0 => k_caughtN0))) | ((with_reducible refine isCall ?_); (refine' CallF.of (Nat.lt_succ_self _) rfl (adapted_call ?k0 ?k1 ?_ ?_ ?_); (case k0 => k_caughtN0); (case k1 => assumption))) | k_caughtB | ((with_reducible refine' TS.asgS3 ?_ ?k1 ?k2 ?k3 ?k4 ?k5 ?k6); (case k1 => intro _; rfl); (case k2 => intro _; rfl); (case k3 => intro _; rfl); (case k4 => intro _ _; rfl); (case k5 => intro env e; cases env; dsimp only at e; subst e; rfl); (case k6 => rfl)))
      have := h page hok (T2 ++ T) lt lc (by rw [← List.append_assoc, ← eT2]; exact g1)
      rw [← List.append_assoc, ← eT2] at this
      exact this
end
section
theorem decl_call {d : Nat} {E} {xs : List Int} {as : List V} {nv : V} {w : Pm} {c : Nat} {H : List O} {Q : V → List O → Prop} (hA : (∃ i, as = [.bytes xs, .ref i] ∧ nv = .ref i ∧ Nums H i w) ∨ (as = [.bytes xs] ∧ nv = .none ∧ w = std)) (ok : w.Ok) (hz : xs.length < 900) (hc : IsCut xs c)
    (h : ∀ ys, dec w xs c = .ok ys → ∀ T (l : Nat), (H ++ T)[l]? = some (.list (ys.map V.int)) → Q (.ref l) (H ++ T)) (he : ∀ s, dec w xs c = .err s → ∀ j T, Told (H ++ T) j s → E j (H ++ T)) : TC (d + 5) E 198 as H Q := by
  refine' TC.plain (binds := [("octets", .bytes xs), ("numbers", nv)]) ?ho ?hcd ?hb ?hl ?hc ?_ (fun _ _ _ _ _ _ _ e => by subst e; exact leaves_to rfl rfl rfl rfl rfl) ?h1 ?h2 ?h3
  case ho => intro P; k_is
  case hcd => intro P; k_is
  case hb =>
    rcases hA with ⟨i, rfl, rfl, N⟩ | ⟨rfl, rfl, _⟩
    · exact Binds.twoK (fun P s v v' X => binds_K X rfl (by k_is) rfl rfl rfl)
    · exact Binds.oneD (u' := .none) (fun P s v X => binds_K X rfl (by k_is) rfl rfl rfl) (fun _ _ => rfl)
  case hl => rfl
  case hc => rfl
  case h1 => rfl
  case h2 => rfl
  case h3 => rfl
  change TSs ⟨⟨_, _, _, _, _⟩, _, _, _, _⟩ _ _ (_ :: _) _
  repeat' k_caughtB
  refine CallF.of (Nat.lt_succ_self _) rfl (deca_call (by rcases hA with ⟨i, _, h, N⟩ | ⟨_, h, e⟩; exact .inl ⟨i, h, N⟩; exact .inr ⟨h, e⟩) ok hz hc (fun ys hy T l l2 g => ?_) fun s hs j T hT => ?_)
  · repeat' k_caughtB
    refine TItem.tuple (get_at _ _ []) (by decide) (by decide) (v := .ref l) rfl ?_ (by intro _ _; rfl)
    have := h ys hy (T ++ [.tuple [.ref l, .ref l2]]) l (by rw [← List.append_assoc]; exact get_left g _)
    rw [← List.append_assoc] at this
    exact this
  · exact he s hs j T hT
theorem told_call {d : Nat} {E} {xs : List Int} {i : Nat} {w : Pm} {c : Nat} {H : List O} {Q : V → List O → Prop} (N : Nums H i w) (ok : w.Ok) (hz : xs.length < 900) (hc : IsCut xs c)
    (h : ∀ ys, dec w xs c = .ok ys → ∀ T (l : Nat), (H ++ T)[l]? = some (.list (ys.map V.int)) → Q (.ref l) (H ++ T)) (he : ∀ s, dec w xs c = .err s → ∀ T, Q (.str s) (H ++ T)) : TC (d + 6) E 248 [.bytes xs, .ref i] H Q := by
  k_caught0
  repeat' k_caughtB
  refine TS.try_ rfl (by intro P; k_is) rfl rfl rfl ?_ rfl
  repeat' k_caughtB
  refine CallF.of (Nat.lt_succ_self _) rfl (decl_call (.inl ⟨i, rfl, rfl, N⟩) ok hz hc (fun ys hy T l g => ?_) fun s hs j T hT => ?_)
  · repeat' k_caughtB
    exact h ys hy T l g
  · obtain ⟨l, h1, h2⟩ := hT
    repeat' k_caughtB
    refine TGet.told (get_at _ _ []) (get_left h1 _) rfl rfl ?_
    repeat' k_caughtB
    · refine TGet.told (get_at _ _ []) (get_left h1 _) rfl rfl ?_
      repeat' k_caughtB
      refine TItem.list (get_left h2 _) (by decide) (v := .str s) rfl ?_ (by intro _ _; rfl)
      repeat' k_caughtB
      refine ⟨[("found", .str s)], fun y u hy => ?_, ?_⟩
      · rw [List.lookup_cons] at hy
        by_cases z : (y == ("found" : PySem.Str)) = true
        · have z' : y = ("found" : PySem.Str) := by simpa using z
          subst z'
          rw [← hy]
          exact ⟨by decide, rfl⟩
        · simp only [Bool.not_eq_true] at z
          rw [z] at hy
          cases hy
      · repeat' k_caughtB
        have := he s hs (T ++ [.exc 45 j])
        rw [← List.append_assoc] at this
        exact this
    · rename_i z
      exact absurd rfl z
end
section
/-- the places of the hyphens among the first k signs -/
noncomputable def hys (xs : List Int) (k : Nat) : List Int := ((List.range k).filter fun j => decide (xs[j]? = some 45)).map fun (j : Nat) => (j : Int)
theorem hys_cut {xs : List Int} {M : Int} (h1 : M ∈ 0 :: hys xs xs.length) (h2 : ∀ a ∈ 0 :: hys xs xs.length, a ≤ M) : 0 ≤ M ∧ IsCut xs M.toNat := by
  have h0 := h2 0 (List.mem_cons_self ..)
  refine ⟨h0, fun k hk z => ?_, fun hp => ?_⟩
  · have hl := (List.getElem?_eq_some_iff.mp z).1
    have := h2 k (List.mem_cons_of_mem _ (List.mem_map.mpr ⟨k, List.mem_filter.mpr ⟨List.mem_range.mpr hl, by simpa using z⟩, rfl⟩))
    (first | lia | omega)
  · rcases List.mem_cons.mp h1 with z | z
    · (first | lia | omega)
    · obtain ⟨j, hj, rfl⟩ := List.mem_map.mp z
      have := (List.mem_filter.mp hj).2
      simpa using this
theorem hys_len (xs : List Int) (k : Nat) : (hys xs k).length ≤ k := by
  unfold hys
  rw [List.length_map]
  exact Nat.le_trans (List.length_filter_le _ _) (by simp)
theorem hys_hit {xs : List Int} {k : Nat} {o : Int} (ho : xs[k]? = some o) (h : o = 45) : hys xs (k + 1) = hys xs k ++ [(k : Int)] := by
  unfold hys
  rw [List.range_succ, List.filter_append, List.filter_cons_of_pos (by rw [ho, h]; simp), List.map_append]
  rfl
theorem hys_miss {xs : List Int} {k : Nat} {o : Int} (ho : xs[k]? = some o) (h : o ≠ 45) : hys xs (k + 1) = hys xs k := by
  unfold hys
  rw [List.range_succ, List.filter_append, List.filter_cons_of_neg (by rw [ho]; simpa using h)]
  simp
inductive RdW (H1 : List O) (w : Pm) (xs : List Int) (c : Nat) (n : Nat) (σ : St) : Prop
  | mk (a fu : Nat) (page : List Int) (lp : Nat) (state place b : Int) (f : Bool) (T : List O) (h0 : σ.H = H1 ++ T) (h1 : Has σ.loc [("octets", .bytes xs), ("page", .ref lp), ("at", .int (a : Nat)), ("state", .int state), ("place", .int place), ("bias", .int b), ("is_first", .bool f)]) (h2 : (H1 ++ T)[lp]? = some (.list (page.map V.int))) (h3 : a ≤ xs.length) (h4 : n = xs.length - a) (h5 : 0 ≤ place) (h6 : 0 ≤ state) (h7 : page.length ≤ a) (h8 : xs.length - a ≤ fu) (h9 : dls w fu (xs.drop a) page state place b f = dec w xs c)
inductive RdI (H1 : List O) (w : Pm) (xs page : List Int) (a lp : Nat) (state place b : Int) (f : Bool) (n : Nat) (σ : St) : Prop
  | mk (m : Nat) (v t k : Int) (bw : Bool) (T : List O) (h0 : σ.H = H1 ++ T) (h1 : Has σ.loc [("octets", .bytes xs), ("page", .ref lp), ("at", .int (a + m : Nat)), ("state", .int state), ("place", .int place), ("bias", .int b), ("is_first", .bool f), ("delta", .int v), ("weight", .int t), ("k", .int k), ("is_whole", .bool bw)]) (h2 : (H1 ++ T)[lp]? = some (.list (page.map V.int))) (h3 : a + m ≤ xs.length) (h4 : n = (if bw then 0 else xs.length - (a + m) + 1)) (h5 : (bw = false → rd w b (xs.drop (a + m)) m v t k = rd w b (xs.drop a) 0 0 1 1)) (h6 : (bw = true → rd w b (xs.drop a) 0 0 1 1 = .ok v m))
theorem read_call {d : Nat} {E} {xs : List Int} {i : Nat} {w : Pm} {c : Nat} {H : List O} {Q : V → List O → Prop} (N : H[i]? = some (.map w.fs)) (ok : w.Ok) (hz : xs.length < 900) (hc : IsCut xs c)
    (h : ∀ ys, dec w xs c = .ok ys → ∀ T (l : Nat), (H ++ T)[l]? = some (.list (ys.map V.int)) → Q (.ref l) (H ++ T)) (he : ∀ s, dec w xs c = .err s → ∀ T, Q (.str s) (H ++ T)) : TC (d + 1) E 241 [.ref i, .bytes xs] H Q := by
  refine' TC.cells (cn := ["w"]) ?ho ?hcd ?hb ?hk1 ?hcn ?hnd ?hbn ?_ (fun _ _ _ _ _ _ _ e1 _ _ _ _ e2 e3 e4 _ _ e5 => leaves_to e1 e2 e3 e4 e5) ?h1 ?h2 ?h3; (case ho => intro P; k_is); (case hcd => intro P; k_is); (case hb => first | exact Binds.one fun _ => rfl | exact Binds.two fun _ _ => rfl | exact Binds.three fun _ _ _ => rfl | exact Binds.four fun _ _ _ _ => rfl | exact Binds.twoK (fun P s v v' X => binds_K X rfl (by k_is) rfl rfl rfl) | exact Binds.fourK (fun P s v v' v'' v3 X => binds_K X rfl (by k_is) rfl rfl rfl) | exact Binds.oneD (u' := .bool false) (fun P s v X => binds_K X rfl (by k_is) rfl rfl rfl) (fun _ _ => rfl) | exact Binds.oneD (u' := .none) (fun P s v X => binds_K X rfl (by k_is) rfl rfl rfl) (fun _ _ => rfl) | exact Binds.oneDD (u' := .none) (u'' := .none) (fun P s v X => binds_K X rfl (by k_is) rfl rfl rfl) (fun _ _ => rfl) (fun _ _ => rfl) | exact Binds.twoD (u' := .none) (fun P s v v' X => binds_K X rfl (by k_is) rfl rfl rfl) (fun _ _ => rfl)); (case hk1 => intro _; rfl); (case hcn => intro _; rfl); (case hnd => decide); (case hbn => simp only [List.map_cons, List.map_nil]; decide); (case h1 => rfl); (case h2 => rfl); (case h3 => rfl); (change TSs ⟨⟨_, _, _, _, _⟩, _, _, _, _⟩ _ _ (_ :: _) _)
  obtain ⟨H1, eH1⟩ : ∃ H1, H1 = H ++ [.cell (some (.ref i))] := ⟨_, rfl⟩
  have N1 : H1[i]? = some (.map w.fs) := by rw [eH1]; exact get_left N _
  have C1 : H1[H.length]? = some (.cell (some (.ref i))) := by rw [eH1]; exact get_at _ _ []
  have h' : ∀ ys, dec w xs c = .ok ys → ∀ T (l : Nat), (H1 ++ T)[l]? = some (.list (ys.map V.int)) → Q (.ref l) (H1 ++ T) := fun ys hy T l g => by
    rw [eH1, List.append_assoc] at g ⊢; exact h ys hy _ l g
  have he' : ∀ s, dec w xs c = .err s → ∀ T, Q (.str s) (H1 ++ T) := fun s hs T => by
    rw [eH1, List.append_assoc]; exact he s hs _
  refine TSs.heap (H' := H1) eH1.symm ?_
  refine TSs.forg (loc' := [("octets", .bytes xs)]) (by k_caughtNB) ?_
  clear h he eH1
  repeat' (first | (with_reducible refine TE.bool ?_) | ((with_reducible refine' TB.cmp2 ?_ ?k1); (case k1 => rfl)) | (with_reducible refine TB.not ?_) | (with_reducible refine ifn (fun _ => ?_) (fun _ => ?_)) | (with_reducible refine TTests.one ?_) | (with_reducible refine TE.cut ?_) | (with_reducible refine TOpt.none ?_) | (with_reducible refine TOpt.some ?_) | ((with_reducible refine' TCut.bytes ?_ ?k1 ?k2); (case k1 => intro _ _ _; rfl); (case k2 => intro _ _ _; rfl)) | ((with_reducible refine isCall ?_); (refine' CallF.of (Nat.lt_succ_self _) rfl (lthr_call ?k0 ?k1 ?_); (case k0 => k_caughtN0); (case k1 => assumption))) | ((with_reducible refine isCall ?_); (refine' CallF.of (Nat.lt_succ_self _) rfl (ladapted_call ?k0 ?k1 ?_ ?_ ?_); (case k0 => k_caughtN0); (case k1 => assumption))) | k_caughtB)
  refine TE.compB (TIt.enum rfl (by intro P; k_is) rfl (by decide) ?_ (by intro _; rfl) (by intro _; rfl) (by intro _; rfl) rfl) (by intro _ _; rfl) rfl rfl rfl rfl
  repeat' (first | (with_reducible refine TE.bool ?_) | ((with_reducible refine' TB.cmp2 ?_ ?k1); (case k1 => rfl)) | (with_reducible refine TB.not ?_) | (with_reducible refine ifn (fun _ => ?_) (fun _ => ?_)) | (with_reducible refine TTests.one ?_) | (with_reducible refine TE.cut ?_) | (with_reducible refine TOpt.none ?_) | (with_reducible refine TOpt.some ?_) | ((with_reducible refine' TCut.bytes ?_ ?k1 ?k2); (case k1 => intro _ _ _; rfl); (case k2 => intro _ _ _; rfl)) | ((with_reducible refine isCall ?_); (refine' CallF.of (Nat.lt_succ_self _) rfl (lthr_call ?k0 ?k1 ?_); (case k0 => k_caughtN0); (case k1 => assumption))) | ((with_reducible refine isCall ?_); (refine' CallF.of (Nat.lt_succ_self _) rfl (ladapted_call ?k0 ?k1 ?_ ?_ ?_); (case k0 => k_caughtN0); (case k1 => assumption))) | k_caughtB)
  refine .inr ⟨xs, rfl, fun k σ => σ.H = (H1 ++ [.list [.int 0]]) ++ [.list ((hys xs k).map V.int)], rfl, fun _ _ _ => trivial, ?_, ?_⟩
  · rintro k ⟨loc, H'⟩ hk eH v hv
    dsimp only at eH
    subst eH
    refine TAsgs.forg (loc' := []) Has.nil ?_
    repeat' (first | (with_reducible refine TE.bool ?_) | ((with_reducible refine' TB.cmp2 ?_ ?k1); (case k1 => rfl)) | (with_reducible refine TB.not ?_) | (with_reducible refine ifn (fun _ => ?_) (fun _ => ?_)) | (with_reducible refine TTests.one ?_) | (with_reducible refine TE.cut ?_) | (with_reducible refine TOpt.none ?_) | (with_reducible refine TOpt.some ?_) | ((with_reducible refine' TCut.bytes ?_ ?k1 ?k2); (case k1 => intro _ _ _; rfl); (case k2 => intro _ _ _; rfl)) | ((with_reducible refine isCall ?_); (refine' CallF.of (Nat.lt_succ_self _) rfl (lthr_call ?k0 ?k1 ?_); (case k0 => k_caughtN0); (case k1 => assumption))) | ((with_reducible refine isCall ?_); (refine' CallF.of (Nat.lt_succ_self _) rfl (ladapted_call ?k0 ?k1 ?_ ?_ ?_); (case k0 => k_caughtN0); (case k1 => assumption))) | k_caughtB)
    · rename_i z
      refine ⟨_, get_at _ _ _, by rw [List.length_map]; have := hys_len xs k; (first | lia | omega), ?_⟩
      dsimp only
      rw [set_at, hys_hit hv z, List.map_append]
      rfl
    · rename_i z
      dsimp only
      rw [hys_miss hv z]
  rintro ⟨loc, H'⟩ eH
  dsimp only at eH
  subst eH
  refine Op2.addL (get_left (get_at _ _ []) _) (get_at _ _ []) (by have := hys_len xs xs.length; simp; (first | lia | omega)) ?_
  repeat' (first | (with_reducible refine TE.bool ?_) | ((with_reducible refine' TB.cmp2 ?_ ?k1); (case k1 => rfl)) | (with_reducible refine TB.not ?_) | (with_reducible refine ifn (fun _ => ?_) (fun _ => ?_)) | (with_reducible refine TTests.one ?_) | (with_reducible refine TE.cut ?_) | (with_reducible refine TOpt.none ?_) | (with_reducible refine TOpt.some ?_) | ((with_reducible refine' TCut.bytes ?_ ?k1 ?k2); (case k1 => intro _ _ _; rfl); (case k2 => intro _ _ _; rfl)) | ((with_reducible refine isCall ?_); (refine' CallF.of (Nat.lt_succ_self _) rfl (lthr_call ?k0 ?k1 ?_); (case k0 => k_caughtN0); (case k1 => assumption))) | ((with_reducible refine isCall ?_); (refine' CallF.of (Nat.lt_succ_self _) rfl (ladapted_call ?k0 ?k1 ?_ ?_ ?_); (case k0 => k_caughtN0); (case k1 => assumption))) | k_caughtB)
  refine CallB.maxL (ns := 0 :: hys xs xs.length) rfl (get_at _ _ []) (by simp) fun M hM hle => ?_
  obtain ⟨M0, hcut⟩ := hys_cut hM hle
  have eM := hcut.uniq hc
  obtain rfl : M = (c : Int) := by (first | lia | omega)
  refine TAsg.name (TStore.loc rfl ?_)
  have hclen : c ≤ xs.length ∧ (0 < c → c < xs.length) := by
    have : 0 < c → c < xs.length := fun z => (List.getElem?_eq_some_iff.mp (hc.2 z)).1
    (first | lia | omega)
  obtain ⟨a0, ea0⟩ : ∃ a0, a0 = if c = 0 then 0 else c + 1 := ⟨_, rfl⟩
  have ha0 : c ≤ a0 ∧ a0 ≤ xs.length := by rw [ea0]; split <;> (first | lia | omega)
  refine TSs.cut1 (fun σ => ∃ T lp, σ.H = H1 ++ T ∧ (H1 ++ T)[lp]? = some (.list ((xs.take c).map V.int)) ∧ Has σ.loc [("octets", .bytes xs), ("page", .ref lp), ("at", .int (a0 : Nat))]) (TS.opq fun Q4 hQ4 => ?_) ?_
  · repeat' (first | (with_reducible refine TE.bool ?_) | ((with_reducible refine' TB.cmp2 ?_ ?k1); (case k1 => rfl)) | (with_reducible refine TB.not ?_) | (with_reducible refine ifn (fun _ => ?_) (fun _ => ?_)) | (with_reducible refine TTests.one ?_) | (with_reducible refine TE.cut ?_) | (with_reducible refine TOpt.none ?_) | (with_reducible refine TOpt.some ?_) | ((with_reducible refine' TCut.bytes ?_ ?k1 ?k2); (case k1 => intro _ _ _; rfl); (case k2 => intro _ _ _; rfl)) | ((with_reducible refine isCall ?_); (refine' CallF.of (Nat.lt_succ_self _) rfl (lthr_call ?k0 ?k1 ?_); (case k0 => k_caughtN0); (case k1 => assumption))) | ((with_reducible refine isCall ?_); (refine' CallF.of (Nat.lt_succ_self _) rfl (ladapted_call ?k0 ?k1 ?_ ?_ ?_); (case k0 => k_caughtN0); (case k1 => assumption))) | k_caughtB)
    refine CallB.listB rfl ?_
    have e1 : clipAt xs.length (c : Int) = c := by unfold clipAt; rw [if_neg (by (first | lia | omega))]; (first | lia | omega)
    repeat' (first | (with_reducible refine TE.bool ?_) | ((with_reducible refine' TB.cmp2 ?_ ?k1); (case k1 => rfl)) | (with_reducible refine TB.not ?_) | (with_reducible refine ifn (fun _ => ?_) (fun _ => ?_)) | (with_reducible refine TTests.one ?_) | (with_reducible refine TE.cut ?_) | (with_reducible refine TOpt.none ?_) | (with_reducible refine TOpt.some ?_) | ((with_reducible refine' TCut.bytes ?_ ?k1 ?k2); (case k1 => intro _ _ _; rfl); (case k2 => intro _ _ _; rfl)) | ((with_reducible refine isCall ?_); (refine' CallF.of (Nat.lt_succ_self _) rfl (lthr_call ?k0 ?k1 ?_); (case k0 => k_caughtN0); (case k1 => assumption))) | ((with_reducible refine isCall ?_); (refine' CallF.of (Nat.lt_succ_self _) rfl (ladapted_call ?k0 ?k1 ?_ ?_ ?_); (case k0 => k_caughtN0); (case k1 => assumption))) | k_caughtB)
    all_goals
      rename_i z
      refine hQ4 .next _ ⟨[.list [.int 0], .list ((hys xs xs.length).map V.int), .list ((0 :: hys xs xs.length).map V.int), .list ((xs.take c).map V.int)], H1.length + 3, ?_, get_at3 _ _ _ _ _ _, ?_⟩
      · dsimp only [Option.elim]
        rw [e1]
        simp
      · refine .cons (.cons (.cons .nil ?_) ?_) ?_
        · show some (V.int _) = some (V.int _)
          congr 2
          rw [ea0]
          split <;> (first | lia | omega)
        · show some (V.ref _) = some (V.ref _)
          congr 2
          simp
        · rfl
  rintro ⟨loc, H'⟩ ⟨T, lp, eH, g1, hl⟩
  dsimp only at eH
  subst eH
  refine TSs.forg hl ?_
  refine TSs.cut1 (fun σ => ∃ T, σ.H = H1 ++ T ∧ (H1 ++ T)[lp]? = some (.list ((xs.take c).map V.int)) ∧ Has σ.loc [("octets", .bytes xs), ("page", .ref lp), ("at", .int (a0 : Nat))] ∧ ∀ o ∈ xs.take c, o < w.first) (TS.opq fun Q4 hQ4 => ?_) ?_
  · repeat' (first | (with_reducible refine TE.bool ?_) | ((with_reducible refine' TB.cmp2 ?_ ?k1); (case k1 => rfl)) | (with_reducible refine TB.not ?_) | (with_reducible refine ifn (fun _ => ?_) (fun _ => ?_)) | (with_reducible refine TTests.one ?_) | (with_reducible refine TE.cut ?_) | (with_reducible refine TOpt.none ?_) | (with_reducible refine TOpt.some ?_) | ((with_reducible refine' TCut.bytes ?_ ?k1 ?k2); (case k1 => intro _ _ _; rfl); (case k2 => intro _ _ _; rfl)) | ((with_reducible refine isCall ?_); (refine' CallF.of (Nat.lt_succ_self _) rfl (lthr_call ?k0 ?k1 ?_); (case k0 => k_caughtN0); (case k1 => assumption))) | ((with_reducible refine isCall ?_); (refine' CallF.of (Nat.lt_succ_self _) rfl (ladapted_call ?k0 ?k1 ?_ ?_ ?_); (case k0 => k_caughtN0); (case k1 => assumption))) | k_caughtB)
    refine TE.compB (TIt.list ?_ (by intro _ _; rfl)) (by intro _ _; rfl) rfl rfl rfl rfl
    repeat' (first | (with_reducible refine TE.bool ?_) | ((with_reducible refine' TB.cmp2 ?_ ?k1); (case k1 => rfl)) | (with_reducible refine TB.not ?_) | (with_reducible refine ifn (fun _ => ?_) (fun _ => ?_)) | (with_reducible refine TTests.one ?_) | (with_reducible refine TE.cut ?_) | (with_reducible refine TOpt.none ?_) | (with_reducible refine TOpt.some ?_) | ((with_reducible refine' TCut.bytes ?_ ?k1 ?k2); (case k1 => intro _ _ _; rfl); (case k2 => intro _ _ _; rfl)) | ((with_reducible refine isCall ?_); (refine' CallF.of (Nat.lt_succ_self _) rfl (lthr_call ?k0 ?k1 ?_); (case k0 => k_caughtN0); (case k1 => assumption))) | ((with_reducible refine isCall ?_); (refine' CallF.of (Nat.lt_succ_self _) rfl (ladapted_call ?k0 ?k1 ?_ ?_ ?_); (case k0 => k_caughtN0); (case k1 => assumption))) | k_caughtB)
    refine ⟨lp, _, rfl, g1, fun k σ => σ.H = (H1 ++ T) ++ [.list ((((xs.take c).take k).filter (fun a => decide (w.first ≤ a))).map V.int)], rfl, fun k σ e => by rw [e]; exact get_left g1 _, ?_, ?_⟩
    · rintro k ⟨loc, H'⟩ hk eH v hv
      dsimp only at eH
      subst eH
      obtain ⟨a, ha, rfl⟩ := get_map hv
      refine TAsg.forg (loc' := []) Has.nil ?_
      repeat' (first | (with_reducible refine TE.bool ?_) | ((with_reducible refine' TB.cmp2 ?_ ?k1); (case k1 => rfl)) | (with_reducible refine TB.not ?_) | (with_reducible refine ifn (fun _ => ?_) (fun _ => ?_)) | (with_reducible refine TTests.one ?_) | (with_reducible refine TE.cut ?_) | (with_reducible refine TOpt.none ?_) | (with_reducible refine TOpt.some ?_) | ((with_reducible refine' TCut.bytes ?_ ?k1 ?k2); (case k1 => intro _ _ _; rfl); (case k2 => intro _ _ _; rfl)) | ((with_reducible refine isCall ?_); (refine' CallF.of (Nat.lt_succ_self _) rfl (lthr_call ?k0 ?k1 ?_); (case k0 => k_caughtN0); (case k1 => assumption))) | ((with_reducible refine isCall ?_); (refine' CallF.of (Nat.lt_succ_self _) rfl (ladapted_call ?k0 ?k1 ?_ ?_ ?_); (case k0 => k_caughtN0); (case k1 => assumption))) | k_caughtB)
      · rename_i z
        refine ⟨_, get_at _ _ [], ?_, ?_⟩
        · have h1 := List.length_filter_le (fun a => decide (w.first ≤ a)) ((xs.take c).take k)
          have h2 : ((xs.take c).take k).length ≤ xs.length := by rw [List.length_take, List.length_take]; (first | lia | omega)
          simp only [List.length_map]
          (first | lia | omega)
        · dsimp only
          rw [set_at, take_succ ha, List.filter_append, List.filter_cons_of_pos (by simpa using z), List.map_append]
          rfl
      · rename_i z
        dsimp only
        rw [take_succ ha, List.filter_append, List.filter_cons_of_neg (by simpa using z)]
        simp
    · rintro ⟨loc, H'⟩ eH
      dsimp only at eH
      rw [List.length_map, List.take_length] at eH
      subst eH
      repeat' (first | (with_reducible refine TE.bool ?_) | ((with_reducible refine' TB.cmp2 ?_ ?k1); (case k1 => rfl)) | (with_reducible refine TB.not ?_) | (with_reducible refine ifn (fun _ => ?_) (fun _ => ?_)) | (with_reducible refine TTests.one ?_) | (with_reducible refine TE.cut ?_) | (with_reducible refine TOpt.none ?_) | (with_reducible refine TOpt.some ?_) | ((with_reducible refine' TCut.bytes ?_ ?k1 ?k2); (case k1 => intro _ _ _; rfl); (case k2 => intro _ _ _; rfl)) | ((with_reducible refine isCall ?_); (refine' CallF.of (Nat.lt_succ_self _) rfl (lthr_call ?k0 ?k1 ?_); (case k0 => k_caughtN0); (case k1 => assumption))) | ((with_reducible refine isCall ?_); (refine' CallF.of (Nat.lt_succ_self _) rfl (ladapted_call ?k0 ?k1 ?_ ?_ ?_); (case k0 => k_caughtN0); (case k1 => assumption))) | k_caughtB)
      refine Op2.neL (ns := (xs.take c).filter (fun a => decide (w.first ≤ a))) (ms := []) (get_left (get_at _ _ []) _) (get_at _ _ []) ?_
      repeat' (first | (with_reducible refine TE.bool ?_) | ((with_reducible refine' TB.cmp2 ?_ ?k1); (case k1 => rfl)) | (with_reducible refine TB.not ?_) | (with_reducible refine ifn (fun _ => ?_) (fun _ => ?_)) | (with_reducible refine TTests.one ?_) | (with_reducible refine TE.cut ?_) | (with_reducible refine TOpt.none ?_) | (with_reducible refine TOpt.some ?_) | ((with_reducible refine' TCut.bytes ?_ ?k1 ?k2); (case k1 => intro _ _ _; rfl); (case k2 => intro _ _ _; rfl)) | ((with_reducible refine isCall ?_); (refine' CallF.of (Nat.lt_succ_self _) rfl (lthr_call ?k0 ?k1 ?_); (case k0 => k_caughtN0); (case k1 => assumption))) | ((with_reducible refine isCall ?_); (refine' CallF.of (Nat.lt_succ_self _) rfl (ladapted_call ?k0 ?k1 ?_ ?_ ?_); (case k0 => k_caughtN0); (case k1 => assumption))) | k_caughtB)
      · rename_i z
        have hb : dec w xs c = .err "basic" := by
          unfold dec
          refine if_pos ?_
          obtain ⟨o, ho⟩ := List.exists_mem_of_ne_nil _ (show (xs.take c).filter (fun a => decide (w.first ≤ a)) ≠ [] by simpa using z)
          have := List.mem_filter.mp ho
          exact ⟨o, this.1, by have := this.2; simp only [decide_eq_true_eq] at this; (first | lia | omega)⟩
        have := he' "basic" hb (T ++ [.list (((xs.take c).filter (fun a => decide (w.first ≤ a))).map V.int)] ++ [.list []])
        rw [← List.append_assoc, ← List.append_assoc] at this
        exact hQ4 (.ret _) _ this
      · rename_i z
        have z' : (xs.take c).filter (fun a => decide (w.first ≤ a)) = [] := by simpa using z
        refine hQ4 .next _ ⟨T ++ [.list (((xs.take c).filter (fun a => decide (w.first ≤ a))).map V.int)] ++ [.list []], by simp, ?_, by k_caughtNB, fun o ho => ?_⟩
        · rw [← List.append_assoc, ← List.append_assoc]; exact get_left (get_left g1 _) _
        · have := List.filter_eq_nil_iff.mp z' o ho
          simp only [decide_eq_true_eq] at this
          (first | lia | omega)
  clear T g1 hl
  rintro ⟨loc, H'⟩ ⟨T, eH, g1, hl, hb⟩
  dsimp only at eH
  subst eH
  refine TSs.forg hl ?_
  have okf := ok.fs
  repeat' (first | (with_reducible refine TE.bool ?_) | ((with_reducible refine' TB.cmp2 ?_ ?k1); (case k1 => rfl)) | (with_reducible refine TB.not ?_) | (with_reducible refine ifn (fun _ => ?_) (fun _ => ?_)) | (with_reducible refine TTests.one ?_) | (with_reducible refine TE.cut ?_) | (with_reducible refine TOpt.none ?_) | (with_reducible refine TOpt.some ?_) | ((with_reducible refine' TCut.bytes ?_ ?k1 ?k2); (case k1 => intro _ _ _; rfl); (case k2 => intro _ _ _; rfl)) | ((with_reducible refine isCall ?_); (refine' CallF.of (Nat.lt_succ_self _) rfl (lthr_call ?k0 ?k1 ?_); (case k0 => k_caughtN0); (case k1 => assumption))) | ((with_reducible refine isCall ?_); (refine' CallF.of (Nat.lt_succ_self _) rfl (ladapted_call ?k0 ?k1 ?_ ?_ ?_); (case k0 => k_caughtN0); (case k1 => assumption))) | k_caughtB)
  refine TAsg.tupRef (get_at _ _ []) ?_ rfl (by intro _; rfl) (by intro _; rfl)
  repeat' (first | (with_reducible refine TE.bool ?_) | ((with_reducible refine' TB.cmp2 ?_ ?k1); (case k1 => rfl)) | (with_reducible refine TB.not ?_) | (with_reducible refine ifn (fun _ => ?_) (fun _ => ?_)) | (with_reducible refine TTests.one ?_) | (with_reducible refine TE.cut ?_) | (with_reducible refine TOpt.none ?_) | (with_reducible refine TOpt.some ?_) | ((with_reducible refine' TCut.bytes ?_ ?k1 ?k2); (case k1 => intro _ _ _; rfl); (case k2 => intro _ _ _; rfl)) | ((with_reducible refine isCall ?_); (refine' CallF.of (Nat.lt_succ_self _) rfl (lthr_call ?k0 ?k1 ?_); (case k0 => k_caughtN0); (case k1 => assumption))) | ((with_reducible refine isCall ?_); (refine' CallF.of (Nat.lt_succ_self _) rfl (ladapted_call ?k0 ?k1 ?_ ?_ ?_); (case k0 => k_caughtN0); (case k1 => assumption))) | k_caughtB)
  refine TS.while_ (RdW H1 w xs c)
    (xs.length - a0) ⟨a0, xs.length - a0, xs.take c, lp, w.first, 0, w.bias, true, T ++ [_], (List.append_assoc ..), by k_caughtNB, by rw [← List.append_assoc]; exact get_left g1 _, ha0.2, rfl, Int.le_refl _, by (first | lia | omega), by rw [List.length_take]; (first | lia | omega), Nat.le_refl _, by
      unfold dec
      rw [if_neg (fun ⟨o, h1, h2⟩ => h2 (hb o h1)), ← ea0]⟩ ?_
  clear g1 hl T lp
  rintro n ⟨loc, H'⟩ hI
  refine TB.opq fun Q1 R1 hQ1 hR1 => ?_
  refine opaq fun P kP => ?_
  obtain ⟨a, fu, page, lp, state, place, b, f, T, eH, hl, g1, ha, rfl, p0, s0, hpa, hfu, hdl⟩ := hI
  dsimp only at eH
  subst eH
  refine kP (TB.forget hl ?_)
  clear kP P
  repeat' (first | (with_reducible refine TE.bool ?_) | ((with_reducible refine' TB.cmp2 ?_ ?k1); (case k1 => rfl)) | (with_reducible refine TB.not ?_) | (with_reducible refine ifn (fun _ => ?_) (fun _ => ?_)) | (with_reducible refine TTests.one ?_) | (with_reducible refine TE.cut ?_) | (with_reducible refine TOpt.none ?_) | (with_reducible refine TOpt.some ?_) | ((with_reducible refine' TCut.bytes ?_ ?k1 ?k2); (case k1 => intro _ _ _; rfl); (case k2 => intro _ _ _; rfl)) | ((with_reducible refine isCall ?_); (refine' CallF.of (Nat.lt_succ_self _) rfl (lthr_call ?k0 ?k1 ?_); (case k0 => k_caughtN0); (case k1 => assumption))) | ((with_reducible refine isCall ?_); (refine' CallF.of (Nat.lt_succ_self _) rfl (ladapted_call ?k0 ?k1 ?_ ?_ ?_); (case k0 => k_caughtN0); (case k1 => assumption))) | k_caughtB)
  · rename_i ca
    have ca' : a < xs.length := by simpa using ca
    obtain ⟨fu', rfl⟩ : ∃ k, fu = k + 1 := ⟨fu - 1, by (first | lia | omega)⟩
    rw [dls, if_neg (by rw [List.drop_eq_nil_iff]; (first | lia | omega))] at hdl
    refine TAsg.tupRef (get_at _ _ []) ?_ rfl (by intro _; rfl) (by intro _; rfl)
    repeat' (first | (with_reducible refine TE.bool ?_) | ((with_reducible refine' TB.cmp2 ?_ ?k1); (case k1 => rfl)) | (with_reducible refine TB.not ?_) | (with_reducible refine ifn (fun _ => ?_) (fun _ => ?_)) | (with_reducible refine TTests.one ?_) | (with_reducible refine TE.cut ?_) | (with_reducible refine TOpt.none ?_) | (with_reducible refine TOpt.some ?_) | ((with_reducible refine' TCut.bytes ?_ ?k1 ?k2); (case k1 => intro _ _ _; rfl); (case k2 => intro _ _ _; rfl)) | ((with_reducible refine isCall ?_); (refine' CallF.of (Nat.lt_succ_self _) rfl (lthr_call ?k0 ?k1 ?_); (case k0 => k_caughtN0); (case k1 => assumption))) | ((with_reducible refine isCall ?_); (refine' CallF.of (Nat.lt_succ_self _) rfl (ladapted_call ?k0 ?k1 ?_ ?_ ?_); (case k0 => k_caughtN0); (case k1 => assumption))) | k_caughtB)
    refine TS.while_ (RdI H1 w xs page a lp state place b f)
      (xs.length - (a + 0) + 1) ⟨0, 0, 1, 1, false, T ++ [_], (List.append_assoc ..), (show Has _ [("octets", .bytes xs), ("page", .ref lp), ("at", .int (a + 0 : Nat)), ("state", .int state), ("place", .int place), ("bias", .int b), ("is_first", .bool f), ("delta", .int 0), ("weight", .int 1), ("k", .int 1), ("is_whole", .bool false)] from by k_caughtNB), by rw [← List.append_assoc]; exact get_left g1 _, by (first | lia | omega), rfl, fun _ => rfl, fun z => by cases z⟩ ?_
    clear g1 hl T
    rintro n ⟨loc, H'⟩ hI
    refine TB.opq fun Q2 R2 hQ2 hR2 => ?_
    refine opaq fun P kP => ?_
    obtain ⟨m, v, t, k, bw, T, eH, hl, g1, hm, rfl, hr1, hr2⟩ := hI
    dsimp only at eH
    subst eH
    refine kP (TB.forget hl ?_)
    clear kP P
    repeat' (first | (with_reducible refine TE.bool ?_) | ((with_reducible refine' TB.cmp2 ?_ ?k1); (case k1 => rfl)) | (with_reducible refine TB.not ?_) | (with_reducible refine ifn (fun _ => ?_) (fun _ => ?_)) | (with_reducible refine TTests.one ?_) | (with_reducible refine TE.cut ?_) | (with_reducible refine TOpt.none ?_) | (with_reducible refine TOpt.some ?_) | ((with_reducible refine' TCut.bytes ?_ ?k1 ?k2); (case k1 => intro _ _ _; rfl); (case k2 => intro _ _ _; rfl)) | ((with_reducible refine isCall ?_); (refine' CallF.of (Nat.lt_succ_self _) rfl (lthr_call ?k0 ?k1 ?_); (case k0 => k_caughtN0); (case k1 => assumption))) | ((with_reducible refine isCall ?_); (refine' CallF.of (Nat.lt_succ_self _) rfl (ladapted_call ?k0 ?k1 ?_ ?_ ?_); (case k0 => k_caughtN0); (case k1 => assumption))) | k_caughtB)
    cases bw
    · have hr1' := hr1 rfl
      clear hr1 hr2
      rw [if_pos (show (!false) = true from rfl)]
      repeat' (first | (with_reducible refine TE.bool ?_) | ((with_reducible refine' TB.cmp2 ?_ ?k1); (case k1 => rfl)) | (with_reducible refine TB.not ?_) | (with_reducible refine ifn (fun _ => ?_) (fun _ => ?_)) | (with_reducible refine TTests.one ?_) | (with_reducible refine TE.cut ?_) | (with_reducible refine TOpt.none ?_) | (with_reducible refine TOpt.some ?_) | ((with_reducible refine' TCut.bytes ?_ ?k1 ?k2); (case k1 => intro _ _ _; rfl); (case k2 => intro _ _ _; rfl)) | ((with_reducible refine isCall ?_); (refine' CallF.of (Nat.lt_succ_self _) rfl (lthr_call ?k0 ?k1 ?_); (case k0 => k_caughtN0); (case k1 => assumption))) | ((with_reducible refine isCall ?_); (refine' CallF.of (Nat.lt_succ_self _) rfl (ladapted_call ?k0 ?k1 ?_ ?_ ?_); (case k0 => k_caughtN0); (case k1 => assumption))) | k_caughtB)
      · rename_i z
        have e : rd w b (xs.drop a) 0 0 1 1 = .err "short" := by
          rw [← hr1', show xs.drop (a + m) = [] from List.drop_eq_nil_iff.mpr (by (first | lia | omega))]; rfl
        rw [e] at hdl
        exact hQ2 (.ret _) _ (hQ1 (.ret _) _ (he' _ hdl.symm _))
      · rename_i z o ho
        refine CallF.of (Nat.lt_succ_self _) rfl (lfigure_call (get_left N1 _) ok (fun hn T' => ?_) (fun g hg gb g0 g36 T' => ?_))
        · have e : rd w b (xs.drop a) 0 0 1 1 = .err "figure" := by
            rw [← hr1', drop_cons (show xs[a + m]? = some o from ho), rd]
            cases hf : fgr o with
            | none => rfl
            | some g =>
              dsimp only
              rw [if_pos (hn g hf)]
          rw [e] at hdl
          repeat' (first | (with_reducible refine TE.bool ?_) | ((with_reducible refine' TB.cmp2 ?_ ?k1); (case k1 => rfl)) | (with_reducible refine TB.not ?_) | (with_reducible refine ifn (fun _ => ?_) (fun _ => ?_)) | (with_reducible refine TTests.one ?_) | (with_reducible refine TE.cut ?_) | (with_reducible refine TOpt.none ?_) | (with_reducible refine TOpt.some ?_) | ((with_reducible refine' TCut.bytes ?_ ?k1 ?k2); (case k1 => intro _ _ _; rfl); (case k2 => intro _ _ _; rfl)) | ((with_reducible refine isCall ?_); (refine' CallF.of (Nat.lt_succ_self _) rfl (lthr_call ?k0 ?k1 ?_); (case k0 => k_caughtN0); (case k1 => assumption))) | ((with_reducible refine isCall ?_); (refine' CallF.of (Nat.lt_succ_self _) rfl (ladapted_call ?k0 ?k1 ?_ ?_ ?_); (case k0 => k_caughtN0); (case k1 => assumption))) | k_caughtB)
          have := he' _ hdl.symm (T ++ T')
          rw [← List.append_assoc] at this
          exact hQ2 (.ret _) _ (hQ1 (.ret _) _ this)
        · rw [drop_cons (show xs[a + m]? = some o from ho), rd, hg] at hr1'
          dsimp only at hr1'
          rw [if_neg (by (first | lia | omega))] at hr1'
          have tb := thr_bounds ok k b
          repeat' (first | (with_reducible refine TE.bool ?_) | ((with_reducible refine' TB.cmp2 ?_ ?k1); (case k1 => rfl)) | (with_reducible refine TB.not ?_) | (with_reducible refine ifn (fun _ => ?_) (fun _ => ?_)) | (with_reducible refine TTests.one ?_) | (with_reducible refine TE.cut ?_) | (with_reducible refine TOpt.none ?_) | (with_reducible refine TOpt.some ?_) | ((with_reducible refine' TCut.bytes ?_ ?k1 ?k2); (case k1 => intro _ _ _; rfl); (case k2 => intro _ _ _; rfl)) | ((with_reducible refine isCall ?_); (refine' CallF.of (Nat.lt_succ_self _) rfl (lthr_call ?k0 ?k1 ?_); (case k0 => k_caughtN0); (case k1 => assumption))) | ((with_reducible refine isCall ?_); (refine' CallF.of (Nat.lt_succ_self _) rfl (ladapted_call ?k0 ?k1 ?_ ?_ ?_); (case k0 => k_caughtN0); (case k1 => assumption))) | k_caughtB)
          refine TAsg.tupRef (get_at _ _ []) ?_ rfl (by intro _; rfl) (by intro _; rfl)
          repeat' (first | (with_reducible refine TE.bool ?_) | ((with_reducible refine' TB.cmp2 ?_ ?k1); (case k1 => rfl)) | (with_reducible refine TB.not ?_) | (with_reducible refine ifn (fun _ => ?_) (fun _ => ?_)) | (with_reducible refine TTests.one ?_) | (with_reducible refine TE.cut ?_) | (with_reducible refine TOpt.none ?_) | (with_reducible refine TOpt.some ?_) | ((with_reducible refine' TCut.bytes ?_ ?k1 ?k2); (case k1 => intro _ _ _; rfl); (case k2 => intro _ _ _; rfl)) | ((with_reducible refine isCall ?_); (refine' CallF.of (Nat.lt_succ_self _) rfl (lthr_call ?k0 ?k1 ?_); (case k0 => k_caughtN0); (case k1 => assumption))) | ((with_reducible refine isCall ?_); (refine' CallF.of (Nat.lt_succ_self _) rfl (ladapted_call ?k0 ?k1 ?_ ?_ ?_); (case k0 => k_caughtN0); (case k1 => assumption))) | k_caughtB)
          refine hQ2 .next _ ⟨if decide (g < thr w k b) then 0 else xs.length - (a + (m + 1)) + 1, ?_, m + 1, v + g * t, t * (w.base - thr w k b), k + 1, decide (g < thr w k b), T ++ T' ++ [_], by simp only [List.append_assoc]; rfl, ?_, ?_, by (first | lia | omega), rfl, fun z => ?_, fun z => ?_⟩
          · rw [if_neg (show ¬ (false = true) by decide)]
            split <;> (first | lia | omega)
          · rw [show ((a + (m + 1) : Nat) : Int) = ((a + m : Nat) : Int) + 1 from by (first | lia | omega)]
            k_caughtNB
          · rw [← List.append_assoc, ← List.append_assoc]; exact get_left (get_left g1 _) _
          · rw [if_neg (by simpa using z)] at hr1'
            exact hr1'
          · rw [if_pos (by simpa using z)] at hr1'
            exact hr1'.symm
    · have hr := hr2 rfl
      clear hr1 hr2
      rw [if_neg (show ¬ (!true) = true by decide)]
      refine hR2 _ ?_
      obtain ⟨r1, r2, r3⟩ := rd_ok ok _ _ _ _ _ _ _ hr
      rw [List.length_drop] at r2
      have r3' : 0 ≤ v := r3 (by decide)
      have hml : (page.map V.int).length = page.length := List.length_map ..
      rw [hr] at hdl
      dsimp only at hdl
      have hmod := Int.emod_nonneg (place + v) (show ((page.length + 1 : Nat) : Int) ≠ 0 by (first | lia | omega))
      have hmod' := Int.emod_lt_of_pos (place + v) (show 0 < ((page.length + 1 : Nat) : Int) by (first | lia | omega))
      have hdv := Int.ediv_nonneg (show 0 ≤ place + v by (first | lia | omega)) (show 0 ≤ ((page.length + 1 : Nat) : Int) by (first | lia | omega))
      refine TSs.cut1 (fun σ => σ.H = H1 ++ T ∧ Has σ.loc [("octets", .bytes xs), ("page", .ref lp), ("at", .int (a + m : Nat)), ("state", .int state), ("place", .int place), ("bias", .int b), ("is_first", .bool f), ("delta", .int v), ("many", .int (page.length + 1 : Nat))]) (TS.opq fun Q4 hQ4 => ?_) ?_
      · repeat' (first | (with_reducible refine TE.bool ?_) | ((with_reducible refine' TB.cmp2 ?_ ?k1); (case k1 => rfl)) | (with_reducible refine TB.not ?_) | (with_reducible refine ifn (fun _ => ?_) (fun _ => ?_)) | (with_reducible refine TTests.one ?_) | (with_reducible refine TE.cut ?_) | (with_reducible refine TOpt.none ?_) | (with_reducible refine TOpt.some ?_) | ((with_reducible refine' TCut.bytes ?_ ?k1 ?k2); (case k1 => intro _ _ _; rfl); (case k2 => intro _ _ _; rfl)) | ((with_reducible refine isCall ?_); (refine' CallF.of (Nat.lt_succ_self _) rfl (lthr_call ?k0 ?k1 ?_); (case k0 => k_caughtN0); (case k1 => assumption))) | ((with_reducible refine isCall ?_); (refine' CallF.of (Nat.lt_succ_self _) rfl (ladapted_call ?k0 ?k1 ?_ ?_ ?_); (case k0 => k_caughtN0); (case k1 => assumption))) | k_caughtB)
        refine hQ4 .next _ ⟨rfl, ?_⟩
        rw [hml]
        k_caughtNB
      rintro ⟨loc, H'⟩ ⟨eH, hl⟩
      dsimp only at eH
      subst eH
      refine TSs.forg hl ?_
      refine TSs.cut1 (fun σ => σ.H = H1 ++ T ∧ Has σ.loc [("octets", .bytes xs), ("page", .ref lp), ("at", .int (a + m : Nat)), ("state", .int state), ("place", .int place), ("bias", .int (ad w v (page.length + 1 : Nat) f)), ("is_first", .bool false), ("delta", .int v), ("many", .int (page.length + 1 : Nat))]) (TS.opq fun Q4 hQ4 => ?_) ?_
      · repeat' (first | (with_reducible refine TE.bool ?_) | ((with_reducible refine' TB.cmp2 ?_ ?k1); (case k1 => rfl)) | (with_reducible refine TB.not ?_) | (with_reducible refine ifn (fun _ => ?_) (fun _ => ?_)) | (with_reducible refine TTests.one ?_) | (with_reducible refine TE.cut ?_) | (with_reducible refine TOpt.none ?_) | (with_reducible refine TOpt.some ?_) | ((with_reducible refine' TCut.bytes ?_ ?k1 ?k2); (case k1 => intro _ _ _; rfl); (case k2 => intro _ _ _; rfl)) | ((with_reducible refine isCall ?_); (refine' CallF.of (Nat.lt_succ_self _) rfl (lthr_call ?k0 ?k1 ?_); (case k0 => k_caughtN0); (case k1 => assumption))) | ((with_reducible refine isCall ?_); (refine' CallF.of (Nat.lt_succ_self _) rfl (ladapted_call ?k0 ?k1 ?_ ?_ ?_); (case k0 => k_caughtN0); (case k1 => assumption))) | k_caughtB)
        · (first | lia | omega)
        · (first | lia | omega)
        · refine hQ4 .next _ ⟨rfl, ?_⟩
          k_caughtNB
      rintro ⟨loc, H'⟩ ⟨eH, hl⟩
      dsimp only at eH
      subst eH
      refine TSs.forg hl ?_
      refine TSs.cut1 (fun σ => σ.H = H1 ++ T ∧ Has σ.loc [("octets", .bytes xs), ("page", .ref lp), ("at", .int (a + m : Nat)), ("state", .int (state + (place + v) / (page.length + 1 : Nat))), ("place", .int ((place + v) % (page.length + 1 : Nat))), ("bias", .int (ad w v (page.length + 1 : Nat) f)), ("is_first", .bool false), ("delta", .int v), ("many", .int (page.length + 1 : Nat))]) (TS.opq fun Q4 hQ4 => ?_) ?_
      · repeat' (first | (with_reducible refine TE.bool ?_) | ((with_reducible refine' TB.cmp2 ?_ ?k1); (case k1 => rfl)) | (with_reducible refine TB.not ?_) | (with_reducible refine ifn (fun _ => ?_) (fun _ => ?_)) | (with_reducible refine TTests.one ?_) | (with_reducible refine TE.cut ?_) | (with_reducible refine TOpt.none ?_) | (with_reducible refine TOpt.some ?_) | ((with_reducible refine' TCut.bytes ?_ ?k1 ?k2); (case k1 => intro _ _ _; rfl); (case k2 => intro _ _ _; rfl)) | ((with_reducible refine isCall ?_); (refine' CallF.of (Nat.lt_succ_self _) rfl (lthr_call ?k0 ?k1 ?_); (case k0 => k_caughtN0); (case k1 => assumption))) | ((with_reducible refine isCall ?_); (refine' CallF.of (Nat.lt_succ_self _) rfl (ladapted_call ?k0 ?k1 ?_ ?_ ?_); (case k0 => k_caughtN0); (case k1 => assumption))) | k_caughtB)
        refine hQ4 .next _ ⟨rfl, ?_⟩
        k_caughtNB
      rintro ⟨loc, H'⟩ ⟨eH, hl⟩
      dsimp only at eH
      subst eH
      refine TSs.forg hl ?_
      refine TSs.cut1 (fun σ => σ.H = H1 ++ T ∧ Has σ.loc [("octets", .bytes xs), ("page", .ref lp), ("at", .int (a + m : Nat)), ("state", .int (state + (place + v) / (page.length + 1 : Nat))), ("place", .int ((place + v) % (page.length + 1 : Nat))), ("bias", .int (ad w v (page.length + 1 : Nat) f)), ("is_first", .bool false), ("delta", .int v), ("many", .int (page.length + 1 : Nat))] ∧ ¬ 1114111 < state + (place + v) / (page.length + 1 : Nat)) (TS.opq fun Q4 hQ4 => ?_) ?_
      · repeat' (first | (with_reducible refine TE.bool ?_) | ((with_reducible refine' TB.cmp2 ?_ ?k1); (case k1 => rfl)) | (with_reducible refine TB.not ?_) | (with_reducible refine ifn (fun _ => ?_) (fun _ => ?_)) | (with_reducible refine TTests.one ?_) | (with_reducible refine TE.cut ?_) | (with_reducible refine TOpt.none ?_) | (with_reducible refine TOpt.some ?_) | ((with_reducible refine' TCut.bytes ?_ ?k1 ?k2); (case k1 => intro _ _ _; rfl); (case k2 => intro _ _ _; rfl)) | ((with_reducible refine isCall ?_); (refine' CallF.of (Nat.lt_succ_self _) rfl (lthr_call ?k0 ?k1 ?_); (case k0 => k_caughtN0); (case k1 => assumption))) | ((with_reducible refine isCall ?_); (refine' CallF.of (Nat.lt_succ_self _) rfl (ladapted_call ?k0 ?k1 ?_ ?_ ?_); (case k0 => k_caughtN0); (case k1 => assumption))) | k_caughtB)
        · rename_i z
          rw [if_pos (by (first | lia | omega))] at hdl
          exact hQ4 (.ret _) _ (hQ1 (.ret _) _ (he' _ hdl.symm _))
        · rename_i z
          exact hQ4 .next _ ⟨rfl, by k_caughtNB, by (first | lia | omega)⟩
      rintro ⟨loc, H'⟩ ⟨eH, hl, z1⟩
      dsimp only at eH
      subst eH
      refine TSs.forg hl ?_
      rw [if_neg z1] at hdl
      refine TSs.cut1 (fun σ => σ.H = H1 ++ T ∧ Has σ.loc [("octets", .bytes xs), ("page", .ref lp), ("at", .int (a + m : Nat)), ("state", .int (state + (place + v) / (page.length + 1 : Nat))), ("place", .int ((place + v) % (page.length + 1 : Nat))), ("bias", .int (ad w v (page.length + 1 : Nat) f)), ("is_first", .bool false), ("delta", .int v), ("many", .int (page.length + 1 : Nat))] ∧ ¬ (55296 ≤ state + (place + v) / (page.length + 1 : Nat) ∧ state + (place + v) / (page.length + 1 : Nat) ≤ 57343)) (TS.opq fun Q4 hQ4 => ?_) ?_
      · repeat' (first | (with_reducible refine TE.bool ?_) | ((with_reducible refine' TB.cmp2 ?_ ?k1); (case k1 => rfl)) | (with_reducible refine TB.not ?_) | (with_reducible refine ifn (fun _ => ?_) (fun _ => ?_)) | (with_reducible refine TTests.one ?_) | (with_reducible refine TE.cut ?_) | (with_reducible refine TOpt.none ?_) | (with_reducible refine TOpt.some ?_) | ((with_reducible refine' TCut.bytes ?_ ?k1 ?k2); (case k1 => intro _ _ _; rfl); (case k2 => intro _ _ _; rfl)) | ((with_reducible refine isCall ?_); (refine' CallF.of (Nat.lt_succ_self _) rfl (lthr_call ?k0 ?k1 ?_); (case k0 => k_caughtN0); (case k1 => assumption))) | ((with_reducible refine isCall ?_); (refine' CallF.of (Nat.lt_succ_self _) rfl (ladapted_call ?k0 ?k1 ?_ ?_ ?_); (case k0 => k_caughtN0); (case k1 => assumption))) | k_caughtB)
        · rename_i z
          rw [if_pos (by simp only [decide_eq_true_eq] at *; (first | lia | omega))] at hdl
          exact hQ4 (.ret _) _ (hQ1 (.ret _) _ (he' _ hdl.symm _))
        all_goals exact hQ4 .next _ ⟨rfl, by k_caughtNB, by simp only [decide_eq_true_eq] at *; (first | lia | omega)⟩
      rintro ⟨loc, H'⟩ ⟨eH, hl, z2⟩
      dsimp only at eH
      subst eH
      refine TSs.forg hl ?_
      rw [if_neg z2] at hdl
      clear z1 z2
      have pt : pickV (page.map V.int) none (some ((place + v) % ((page.length + 1 : Nat) : Int))) = (page.take ((place + v) % ((page.length + 1 : Nat) : Int)).toNat).map V.int := by
        rw [pick_take hmod (by (first | lia | omega)), List.map_take]
      have pd : pickV (page.map V.int) (some ((place + v) % ((page.length + 1 : Nat) : Int))) none = (page.drop ((place + v) % ((page.length + 1 : Nat) : Int)).toNat).map V.int := by
        rw [pick_drop hmod (by (first | lia | omega)), List.map_drop]
      repeat' (first | (with_reducible refine TE.bool ?_) | ((with_reducible refine' TB.cmp2 ?_ ?k1); (case k1 => rfl)) | (with_reducible refine TB.not ?_) | (with_reducible refine ifn (fun _ => ?_) (fun _ => ?_)) | (with_reducible refine TTests.one ?_) | (with_reducible refine TE.cut ?_) | (with_reducible refine TOpt.none ?_) | (with_reducible refine TOpt.some ?_) | ((with_reducible refine' TCut.bytes ?_ ?k1 ?k2); (case k1 => intro _ _ _; rfl); (case k2 => intro _ _ _; rfl)) | ((with_reducible refine isCall ?_); (refine' CallF.of (Nat.lt_succ_self _) rfl (lthr_call ?k0 ?k1 ?_); (case k0 => k_caughtN0); (case k1 => assumption))) | ((with_reducible refine isCall ?_); (refine' CallF.of (Nat.lt_succ_self _) rfl (ladapted_call ?k0 ?k1 ?_ ?_ ?_); (case k0 => k_caughtN0); (case k1 => assumption))) | k_caughtB)
      refine TCut.list g1 ?_ (by intro _ _; rfl) (by intro _ _; rfl)
      rw [pt]
      repeat' (first | (with_reducible refine TE.bool ?_) | ((with_reducible refine' TB.cmp2 ?_ ?k1); (case k1 => rfl)) | (with_reducible refine TB.not ?_) | (with_reducible refine ifn (fun _ => ?_) (fun _ => ?_)) | (with_reducible refine TTests.one ?_) | (with_reducible refine TE.cut ?_) | (with_reducible refine TOpt.none ?_) | (with_reducible refine TOpt.some ?_) | ((with_reducible refine' TCut.bytes ?_ ?k1 ?k2); (case k1 => intro _ _ _; rfl); (case k2 => intro _ _ _; rfl)) | ((with_reducible refine isCall ?_); (refine' CallF.of (Nat.lt_succ_self _) rfl (lthr_call ?k0 ?k1 ?_); (case k0 => k_caughtN0); (case k1 => assumption))) | ((with_reducible refine isCall ?_); (refine' CallF.of (Nat.lt_succ_self _) rfl (ladapted_call ?k0 ?k1 ?_ ?_ ?_); (case k0 => k_caughtN0); (case k1 => assumption))) | k_caughtB)
      refine Op2.addL (get_left (get_at _ _ []) _) (get_at _ _ []) (by simp; (first | lia | omega)) ?_
      repeat' (first | (with_reducible refine TE.bool ?_) | ((with_reducible refine' TB.cmp2 ?_ ?k1); (case k1 => rfl)) | (with_reducible refine TB.not ?_) | (with_reducible refine ifn (fun _ => ?_) (fun _ => ?_)) | (with_reducible refine TTests.one ?_) | (with_reducible refine TE.cut ?_) | (with_reducible refine TOpt.none ?_) | (with_reducible refine TOpt.some ?_) | ((with_reducible refine' TCut.bytes ?_ ?k1 ?k2); (case k1 => intro _ _ _; rfl); (case k2 => intro _ _ _; rfl)) | ((with_reducible refine isCall ?_); (refine' CallF.of (Nat.lt_succ_self _) rfl (lthr_call ?k0 ?k1 ?_); (case k0 => k_caughtN0); (case k1 => assumption))) | ((with_reducible refine isCall ?_); (refine' CallF.of (Nat.lt_succ_self _) rfl (ladapted_call ?k0 ?k1 ?_ ?_ ?_); (case k0 => k_caughtN0); (case k1 => assumption))) | k_caughtB)
      refine TCut.list (get_left (get_left (get_left g1 _) _) _) ?_ (by intro _ _; rfl) (by intro _ _; rfl)
      rw [pd]
      refine Op2.addL (get_left (get_at _ _ []) _) (get_at _ _ []) (by simp; (first | lia | omega)) ?_
      repeat' (first | (with_reducible refine TE.bool ?_) | ((with_reducible refine' TB.cmp2 ?_ ?k1); (case k1 => rfl)) | (with_reducible refine TB.not ?_) | (with_reducible refine ifn (fun _ => ?_) (fun _ => ?_)) | (with_reducible refine TTests.one ?_) | (with_reducible refine TE.cut ?_) | (with_reducible refine TOpt.none ?_) | (with_reducible refine TOpt.some ?_) | ((with_reducible refine' TCut.bytes ?_ ?k1 ?k2); (case k1 => intro _ _ _; rfl); (case k2 => intro _ _ _; rfl)) | ((with_reducible refine isCall ?_); (refine' CallF.of (Nat.lt_succ_self _) rfl (lthr_call ?k0 ?k1 ?_); (case k0 => k_caughtN0); (case k1 => assumption))) | ((with_reducible refine isCall ?_); (refine' CallF.of (Nat.lt_succ_self _) rfl (ladapted_call ?k0 ?k1 ?_ ?_ ?_); (case k0 => k_caughtN0); (case k1 => assumption))) | k_caughtB)
      rw [List.drop_drop] at hdl
      refine hQ1 .next _ ⟨xs.length - (a + m), by (first | lia | omega), a + m, fu', _, (H1 ++ T ++ [O.list ((page.take ((place + v) % ((page.length + 1 : Nat) : Int)).toNat).map V.int)] ++ [O.list [V.int (state + (place + v) / (page.length + 1 : Nat))]] ++ [O.list ((page.take ((place + v) % ((page.length + 1 : Nat) : Int)).toNat).map V.int ++ [V.int (state + (place + v) / (page.length + 1 : Nat))])] ++ [O.list ((page.drop ((place + v) % ((page.length + 1 : Nat) : Int)).toNat).map V.int)]).length, _, _, _, _, T ++ [O.list ((page.take ((place + v) % ((page.length + 1 : Nat) : Int)).toNat).map V.int), O.list [V.int (state + (place + v) / (page.length + 1 : Nat))], O.list ((page.take ((place + v) % ((page.length + 1 : Nat) : Int)).toNat).map V.int ++ [V.int (state + (place + v) / (page.length + 1 : Nat))]), O.list ((page.drop ((place + v) % ((page.length + 1 : Nat) : Int)).toNat).map V.int), O.list ((page.take ((place + v) % ((page.length + 1 : Nat) : Int)).toNat).map V.int ++ [V.int (state + (place + v) / (page.length + 1 : Nat))] ++ (page.drop ((place + v) % ((page.length + 1 : Nat) : Int)).toNat).map V.int)], ?_, ?_, ?_, by (first | lia | omega), rfl, by (first | lia | omega), by (first | lia | omega), ?_, by (first | lia | omega), hdl⟩
      · dsimp only
        simp only [List.append_assoc, List.cons_append, List.nil_append]
      · k_caughtNB
      · rw [show H1 ++ (T ++ [O.list ((page.take ((place + v) % ((page.length + 1 : Nat) : Int)).toNat).map V.int), O.list [V.int (state + (place + v) / (page.length + 1 : Nat))], O.list ((page.take ((place + v) % ((page.length + 1 : Nat) : Int)).toNat).map V.int ++ [V.int (state + (place + v) / (page.length + 1 : Nat))]), O.list ((page.drop ((place + v) % ((page.length + 1 : Nat) : Int)).toNat).map V.int), O.list ((page.take ((place + v) % ((page.length + 1 : Nat) : Int)).toNat).map V.int ++ [V.int (state + (place + v) / (page.length + 1 : Nat))] ++ (page.drop ((place + v) % ((page.length + 1 : Nat) : Int)).toNat).map V.int)]) = (H1 ++ T ++ [O.list ((page.take ((place + v) % ((page.length + 1 : Nat) : Int)).toNat).map V.int)] ++ [O.list [V.int (state + (place + v) / (page.length + 1 : Nat))]] ++ [O.list ((page.take ((place + v) % ((page.length + 1 : Nat) : Int)).toNat).map V.int ++ [V.int (state + (place + v) / (page.length + 1 : Nat))])] ++ [O.list ((page.drop ((place + v) % ((page.length + 1 : Nat) : Int)).toNat).map V.int)]) ++ [O.list ((page.take ((place + v) % ((page.length + 1 : Nat) : Int)).toNat).map V.int ++ [V.int (state + (place + v) / (page.length + 1 : Nat))] ++ (page.drop ((place + v) % ((page.length + 1 : Nat) : Int)).toNat).map V.int)] by simp only [List.append_assoc, List.cons_append, List.nil_append]]
        rw [List.map_append, List.map_append]
        exact get_at _ _ []
      · simp only [List.length_append, List.length_take, List.length_drop, List.length_cons, List.length_nil]
        (first | lia | omega)
  · rename_i ca
    have ca' : ¬ a < xs.length := by simpa using ca
    rw [show xs.drop a = [] from List.drop_eq_nil_iff.mpr (by (first | lia | omega))] at hdl
    have hok : dec w xs c = .ok page := by
      rw [← hdl]
      cases fu <;> rfl
    refine hR1 _ ?_
    repeat' (first | (with_reducible refine TE.bool ?_) | ((with_reducible refine' TB.cmp2 ?_ ?k1); (case k1 => rfl)) | (with_reducible refine TB.not ?_) | (with_reducible refine ifn (fun _ => ?_) (fun _ => ?_)) | (with_reducible refine TTests.one ?_) | (with_reducible refine TE.cut ?_) | (with_reducible refine TOpt.none ?_) | (with_reducible refine TOpt.some ?_) | ((with_reducible refine' TCut.bytes ?_ ?k1 ?k2); (case k1 => intro _ _ _; rfl); (case k2 => intro _ _ _; rfl)) | ((with_reducible refine isCall ?_); (refine' CallF.of (Nat.lt_succ_self _) rfl (lthr_call ?k0 ?k1 ?_); (case k0 => k_caughtN0); (case k1 => assumption))) | ((with_reducible refine isCall ?_); (refine' CallF.of (Nat.lt_succ_self _) rfl (ladapted_call ?k0 ?k1 ?_ ?_ ?_); (case k0 => k_caughtN0); (case k1 => assumption))) | k_caughtB)
    exact h' page hok T lp g1
end
section
theorem TItem.last {x : Sx} {E : Nat → St → Prop} {σ : St} {value slice : Expr} {i : Nat} {vs : List V} {v : V} {Q : V → St → Prop} (hi : σ.H[i]? = some (.list (vs ++ [v]))) (h : Q v σ)
    (hs : ∀ a t, subscripted slice false (.ref a) (.int (-1) t) = operate [.ref a, .int (-1) t] (getItem (.ref a) (.int (-1) t))) : TItem x E value slice (.ref i) (.int (-1)) σ Q := fun f ρ vo vi e ro ⟨t, ei⟩ hh tk R Qc Ec hq _ => by
  subst ei
  obtain ⟨m, objs, fo, W⟩ := id R
  obtain ⟨a, l, n, rfl, h1, h2, _, hl, r, z, _⟩ := W.isList hi ro
  have hlen := r.length
  rw [List.length_append, List.length_singleton] at hlen
  obtain ⟨u, hu, ru⟩ := r.get (show (vs ++ [v])[l.length - 1]? = some v from by rw [show l.length - 1 = vs.length by (first | lia | omega), List.getElem?_append_right (Nat.le_refl _), Nat.sub_self]; rfl)
  refine tail_any hl.typeIs slot_list_getitem.lookup (wpAny_getItem_list_neg hl (by decide) (by simp; (first | lia | omega)) (by decide) (x := u) ?_ (hq v u σ ρ hh tk h (List.prefix_refl _) R ru)) (hs _ _)
  rw [show ((-1 : Int) + (l.toArray.size : Int)).toNat = l.length - 1 by simp; (first | lia | omega)]
  simpa using hu
theorem set_last {vs : List V} {a b : V} : (vs ++ [a]).set ((vs ++ [a]).length - 1) b = vs ++ [b] := by
  rw [List.length_append, List.length_singleton, Nat.add_sub_cancel, List.set_append_right _ _ (Nat.le_refl _), Nat.sub_self]
  rfl
/-- the pairs (code, place) with a code from first on, of the first k places -/
noncomputable def prs (page : List Int) (first : Int) (k : Nat) : List Pr := (List.range k).filterMap fun (j : Nat) => match page[j]? with
  | some a => if first ≤ a then some (a, (j : Int)) else none
  | none => none
theorem prs_hit {page : List Int} {first : Int} {k : Nat} {o : Int} (ho : page[k]? = some o) (h : first ≤ o) : prs page first (k + 1) = prs page first k ++ [(o, (k : Int))] := by
  unfold prs
  rw [List.range_succ, List.filterMap_append]
  congr 1
  simp [ho, h]
theorem prs_miss {page : List Int} {first : Int} {k : Nat} {o : Int} (ho : page[k]? = some o) (h : ¬ first ≤ o) : prs page first (k + 1) = prs page first k := by
  unfold prs
  rw [List.range_succ, List.filterMap_append]
  simp [ho, h]
theorem prs_mem {page : List Int} {first : Int} {k : Nat} {q : Pr} : q ∈ prs page first k ↔ 0 ≤ q.2 ∧ q.2 < k ∧ page[q.2.toNat]? = some q.1 ∧ first ≤ q.1 := by
  unfold prs
  rw [List.mem_filterMap]
  constructor
  · rintro ⟨j, hj, e⟩
    cases ha : page[j]? with
    | none => rw [ha] at e; cases e
    | some a =>
      rw [ha] at e
      dsimp only at e
      split at e
      · rename_i z
        cases e
        exact ⟨by dsimp only; (first | lia | omega), by have := List.mem_range.mp hj; dsimp only; (first | lia | omega), ha, z⟩
      · cases e
  · rintro ⟨h1, h2, h3, h4⟩
    refine ⟨q.2.toNat, List.mem_range.mpr (by (first | lia | omega)), ?_⟩
    rw [h3]
    dsimp only
    rw [if_pos h4]
    congr 1
    exact Prod.ext rfl (by dsimp only; (first | lia | omega))
theorem prs_len (page : List Int) (first : Int) (k : Nat) : (prs page first k).length ≤ k := by
  unfold prs
  exact Nat.le_trans (List.length_filterMap_le ..) (by simp)
theorem prs_nodup {page : List Int} {first : Int} : ∀ k, (prs page first k).Nodup
  | 0 => List.nodup_nil
  | k + 1 => by
    have ih := prs_nodup (page := page) (first := first) k
    cases ha : page[k]? with
    | none =>
      have : prs page first (k + 1) = prs page first k := by
        unfold prs
        rw [List.range_succ, List.filterMap_append]
        simp [ha]
      rw [this]; exact ih
    | some a =>
      by_cases h : first ≤ a
      · rw [prs_hit ha h]
        refine List.nodup_append.mpr ⟨ih, by simp, fun x hx y hy e => ?_⟩
        rw [List.mem_singleton] at hy
        have := (prs_mem.mp hx).2.1
        rw [e, hy] at this
        dsimp only at this
        (first | lia | omega)
      · rw [prs_miss ha h]; exact ih
theorem prs_is {page : List Int} {first : Int} {qs : List Pr} (h1 : qs.Pairwise fun a b => plt a b = true) (h2 : ∀ q, q ∈ qs ↔ q ∈ prs page first page.length) : IsPs page first qs := ⟨h1, fun q => by
  rw [h2, prs_mem]
  constructor
  · rintro ⟨z1, z2, z3⟩; exact ⟨z1, z3⟩
  · rintro ⟨z1, z2, z3⟩
    have := (List.getElem?_eq_some_iff.mp z2).1
    exact ⟨z1, by (first | lia | omega), z2, z3⟩⟩
theorem sub_len {α : Type} [DecidableEq α] : ∀ {l m : List α}, l.Nodup → (∀ q ∈ l, q ∈ m) → l.length ≤ m.length
  | [], _, _, _ => Nat.zero_le _
  | a :: l, m, hn, h => by
    obtain ⟨n1, n2⟩ := List.nodup_cons.mp hn
    have ih := sub_len (m := m.erase a) n2 fun q hq => (List.mem_erase_of_ne (fun e => n1 (by rw [← e]; exact hq))).mpr (h q (List.mem_cons_of_mem _ hq))
    have hm := h a (List.mem_cons_self ..)
    have := List.length_pos_of_mem hm
    rw [List.length_erase_of_mem hm] at ih
    simp only [List.length_cons]
    (first | lia | omega)
theorem pairs2_mono {G G' : List O} {rs : List Nat} {ps : List Pr} (P : Pairs2 G rs ps) (k : ∀ r ∈ rs, ∀ o, G[r]? = some o → G'[r]? = some o) : Pairs2 G' rs ps := by
  unfold Pairs2 at *
  induction P with
  | nil => exact .nil
  | cons h t ih => exact .cons (k _ (List.mem_cons_self ..) _ h) (ih fun r hr => k r (List.mem_cons_of_mem _ hr))
theorem pairs2_snoc {G : List O} {rs : List Nat} {ps : List Pr} {r : Nat} {p : Pr} (P : Pairs2 G rs ps) (h : G[r]? = some (.tuple [.int p.1, .int p.2])) : Pairs2 G (rs ++ [r]) (ps ++ [p]) := by
  unfold Pairs2 at *
  induction P with
  | nil => exact .cons h .nil
  | cons h' t ih => exact .cons h' ih
theorem get_mid {X T U : List O} {L L' o : O} {r : Nat} (h : (X ++ L :: T)[r]? = some o) (hr : r ≠ X.length) : (X ++ L' :: (T ++ U))[r]? = some o := by
  rcases Nat.lt_or_ge r X.length with z | z
  · rw [List.getElem?_append_left z] at h ⊢; exact h
  · rw [List.getElem?_append_right z] at h ⊢
    obtain ⟨s, e⟩ : ∃ s, r - X.length = s + 1 := ⟨r - X.length - 1, by (first | lia | omega)⟩
    rw [e, List.getElem?_cons_succ] at h ⊢
    exact get_left h _
theorem get_end {X T : List O} {L L' o : O} : (X ++ L' :: (T ++ [o]))[(X ++ L :: T).length]? = some o := by
  rw [show X ++ L' :: (T ++ [o]) = (X ++ L' :: T) ++ [o] by simp, show (X ++ L :: T).length = (X ++ L' :: T).length by simp]
  exact get_at _ _ []
/-- what stays of the heap H4 in the loop: the cells of at and code and the list found may change -/
noncomputable def WF (H H4 : List O) (lf : Nat) (u v : Option V) (fs : List Int) (G : List O) : Prop := (∃ T, G = H ++ T) ∧ G[H.length]? = some (.cell u) ∧ G[H.length + 1]? = some (.cell v) ∧ G[lf]? = some (.list (fs.map V.int)) ∧ ∀ (j : Nat) (o : O), j ≠ H.length → j ≠ H.length + 1 → j ≠ lf → H4[j]? = some o → G[j]? = some o
section
variable {H H4 G : List O} {lf : Nat} {u v : Option V} {fs : List Int}
theorem WF.app (h : WF H H4 lf u v fs G) (T : List O) : WF H H4 lf u v fs (G ++ T) := by
  obtain ⟨⟨T0, e⟩, h1, h2, h3, h4⟩ := h
  exact ⟨⟨T0 ++ T, by rw [e, List.append_assoc]⟩, get_left h1 _, get_left h2 _, get_left h3 _, fun j o a b c k => get_left (h4 j o a b c k) _⟩
theorem set_hit {G : List O} {j : Nat} {o o' : O} (h : G[j]? = some o) : (G.set j o')[j]? = some o' := by
  rw [List.getElem?_set_self (List.getElem?_eq_some_iff.mp h).1]
theorem WF.put0 (h : WF H H4 lf u v fs G) (hlf : H.length + 1 < lf) (u' : Option V) : WF H H4 lf u' v fs (G.set H.length (.cell u')) := by
  obtain ⟨⟨T0, e⟩, h1, h2, h3, h4⟩ := h
  refine ⟨?_, set_hit h1, ?_, ?_, fun j o a b c k => ?_⟩
  · rw [e, List.set_append_right _ _ (Nat.le_refl _)]; exact ⟨_, rfl⟩
  · rw [List.getElem?_set_ne (by (first | lia | omega))]; exact h2
  · rw [List.getElem?_set_ne (by (first | lia | omega))]; exact h3
  · rw [List.getElem?_set_ne (by (first | lia | omega))]; exact h4 j o a b c k
theorem WF.put1 (h : WF H H4 lf u v fs G) (hlf : H.length + 1 < lf) (v' : Option V) : WF H H4 lf u v' fs (G.set (H.length + 1) (.cell v')) := by
  obtain ⟨⟨T0, e⟩, h1, h2, h3, h4⟩ := h
  refine ⟨?_, ?_, set_hit h2, ?_, fun j o a b c k => ?_⟩
  · rw [e, List.set_append_right _ _ (by (first | lia | omega))]; exact ⟨_, rfl⟩
  · rw [List.getElem?_set_ne (by (first | lia | omega))]; exact h1
  · rw [List.getElem?_set_ne (by (first | lia | omega))]; exact h3
  · rw [List.getElem?_set_ne (by (first | lia | omega))]; exact h4 j o a b c k
theorem WF.putf (h : WF H H4 lf u v fs G) (hlf : H.length + 1 < lf) (fs' : List Int) : WF H H4 lf u v fs' (G.set lf (.list (fs'.map V.int))) := by
  obtain ⟨⟨T0, e⟩, h1, h2, h3, h4⟩ := h
  refine ⟨?_, ?_, ?_, set_hit h3, fun j o a b c k => ?_⟩
  · rw [e, List.set_append_right _ _ (by (first | lia | omega))]; exact ⟨_, rfl⟩
  · rw [List.getElem?_set_ne (by (first | lia | omega))]; exact h1
  · rw [List.getElem?_set_ne (by (first | lia | omega))]; exact h2
  · rw [List.getElem?_set_ne (by (first | lia | omega))]; exact h4 j o a b c k
end
theorem pairs2_get {G : List O} {rs : List Nat} {ps : List Pr} (P : Pairs2 G rs ps) : ∀ {k r : Nat}, rs[k]? = some r → ∃ q : Pr, ps[k]? = some q ∧ G[r]? = some (.tuple [.int q.1, .int q.2]) := by
  unfold Pairs2 at P
  induction P with
  | nil => intro k r h; cases h
  | cons h t ih =>
    intro k r hk
    cases k with
    | zero => cases hk; exact ⟨_, rfl, h⟩
    | succ k => exact ih hk
inductive WrF (H H4 : List O) (lf lo : Nat) (w : Pm) (page : List Int) (ps : List Pr) (k : Nat) (σ : St) : Prop
  | mk (fs : List Int) (u v : Option V) (state place b : Int) (h0 : WF H H4 lf u v fs σ.H) (h1 : Has σ.loc [("others", .ref lo), ("found", .ref lf), ("many", .int ((plainOf w page).length + k : Nat)), ("state", .int state), ("place", .int place), ("bias", .int b)]) (h2 : fs.length ≤ 20 + 41 * k) (h3 : fs ++ tail w page (ps.drop k) ((plainOf w page).length + k : Nat) state place b (decide (k = 0)) = wr w page ps) (h4 : Good page (ps.drop k) ((plainOf w page).length + k : Nat) state place)
inductive WrW (H H4 : List O) (lf lo : Nat) (w : Pm) (page fs : List Int) (n k : Nat) (o state place b D : Int) (n' : Nat) (σ : St) : Prop
  | mk (fs' : List Int) (left kk : Int) (h0 : WF H H4 lf (some (.int n)) (some (.int o)) fs' σ.H) (h1 : Has σ.loc [("others", .ref lo), ("found", .ref lf), ("many", .int ((plainOf w page).length + k : Nat)), ("state", .int state), ("place", .int place), ("bias", .int b), ("turn", .int k), ("ahead", .int (cnt page o n)), ("delta", .int D), ("left", .int left), ("k", .int kk)]) (h2 : 0 ≤ left) (h3 : n' = left.toNat) (h4 : fs' ++ nums w b kk left = fs ++ nums w b 1 D)
inductive WrE (H H4 : List O) (lf lo : Nat) (w : Pm) (page fs : List Int) (n k : Nat) (o state place b D : Int) (σ : St) : Prop
  | mk (fs' : List Int) (left kk : Int) (h0 : WF H H4 lf (some (.int n)) (some (.int o)) fs' σ.H) (h1 : Has σ.loc [("others", .ref lo), ("found", .ref lf), ("many", .int ((plainOf w page).length + k : Nat)), ("state", .int state), ("place", .int place), ("bias", .int b), ("turn", .int k), ("ahead", .int (cnt page o n)), ("delta", .int D), ("left", .int left), ("k", .int kk)]) (h2 : 0 ≤ left) (h3 : left < thr w kk b) (h4 : fs' ++ nums w b kk left = fs ++ nums w b 1 D)
theorem written_call {d : Nat} {E} {i p : Nat} {w : Pm} {page : List Int} {ps : List Pr} {H : List O} {Q : V → List O → Prop} (N : H[i]? = some (.map w.fs)) (Np : H[p]? = some (.list (page.map V.int))) (ok : w.Ok) (hz : page.length ≤ 6) (hok : ∀ c ∈ page, okc c) (hp : IsPs page w.first ps) (g : Good page ps (plainOf w page).length w.first 0)
    (h : ∀ T, Q (.bytes (wr w page ps)) (H ++ T)) : TC (d + 1) E 229 [.ref i, .ref p] H Q := by
  refine' TC.cells (cn := ["at", "code", "page", "w"]) ?ho ?hcd ?hb ?hk1 ?hcn ?hnd ?hbn ?_ (fun _ _ _ _ _ _ _ e1 _ _ _ _ e2 e3 e4 _ _ e5 => leaves_to e1 e2 e3 e4 e5) ?h1 ?h2 ?h3; (case ho => intro P; k_is); (case hcd => intro P; k_is); (case hb => first | exact Binds.one fun _ => rfl | exact Binds.two fun _ _ => rfl | exact Binds.three fun _ _ _ => rfl | exact Binds.four fun _ _ _ _ => rfl | exact Binds.twoK (fun P s v v' X => binds_K X rfl (by k_is) rfl rfl rfl) | exact Binds.fourK (fun P s v v' v'' v3 X => binds_K X rfl (by k_is) rfl rfl rfl) | exact Binds.oneD (u' := .bool false) (fun P s v X => binds_K X rfl (by k_is) rfl rfl rfl) (fun _ _ => rfl) | exact Binds.oneD (u' := .none) (fun P s v X => binds_K X rfl (by k_is) rfl rfl rfl) (fun _ _ => rfl) | exact Binds.oneDD (u' := .none) (u'' := .none) (fun P s v X => binds_K X rfl (by k_is) rfl rfl rfl) (fun _ _ => rfl) (fun _ _ => rfl) | exact Binds.twoD (u' := .none) (fun P s v v' X => binds_K X rfl (by k_is) rfl rfl rfl) (fun _ _ => rfl)); (case hk1 => intro _; rfl); (case hcn => intro _; rfl); (case hnd => decide); (case hbn => simp only [List.map_cons, List.map_nil]; decide); (case h1 => rfl); (case h2 => rfl); (case h3 => rfl); (change TSs ⟨⟨_, _, _, _, _⟩, _, _, _, _⟩ _ _ (_ :: _) _)
  refine TSs.heap (H' := H ++ .cell none :: .cell none :: .cell (some (.ref p)) :: .cell (some (.ref i)) :: []) rfl ?_
  refine TSs.forg (loc' := []) (by k_caughtNB) ?_
  have N1 := get_left N (.cell none :: .cell none :: .cell (some (.ref p)) :: .cell (some (.ref i)) :: [])
  have Np1 := get_left Np (.cell none :: .cell none :: .cell (some (.ref p)) :: .cell (some (.ref i)) :: [])
  have c0 : (H ++ .cell none :: .cell none :: .cell (some (.ref p)) :: .cell (some (.ref i)) :: [])[H.length]? = some (.cell none) := get_at _ _ _
  have c1 : (H ++ .cell none :: .cell none :: .cell (some (.ref p)) :: .cell (some (.ref i)) :: [])[H.length + 1]? = some (.cell none) := get_at1 _ _ _ _
  have c2 : (H ++ .cell none :: .cell none :: .cell (some (.ref p)) :: .cell (some (.ref i)) :: [])[H.length + 2]? = some (.cell (some (.ref p))) := get_at2 _ _ _ _ _
  have c3 : (H ++ .cell none :: .cell none :: .cell (some (.ref p)) :: .cell (some (.ref i)) :: [])[H.length + 3]? = some (.cell (some (.ref i))) := get_at3 _ _ _ _ _ _
  obtain ⟨H1, eH1⟩ : ∃ H1, H1 = H ++ .cell none :: .cell none :: .cell (some (.ref p)) :: .cell (some (.ref i)) :: [] := ⟨_, rfl⟩
  have hH1 : ∃ T, H1 = H ++ T := ⟨_, eH1⟩
  rw [← eH1] at N1 Np1 c0 c1 c2 c3 ⊢
  clear eH1
  refine TSs.cut1 (fun σ => ∃ T lp, σ.H = H1 ++ T ∧ (H1 ++ T)[lp]? = some (.list ((plainOf w page).map V.int)) ∧ Has σ.loc [("plain", .ref lp)]) (TS.opq fun Q2 hQ2 => ?_) ?_
  · refine TS.asgCompB (TIt.list ?_ (by intro _ _; rfl)) (by intro env e; cases env; dsimp only at e; subst e; rfl) (by intro _ _; rfl) rfl rfl rfl rfl
    repeat' (first | (with_reducible refine TTests.one ?_) | ((with_reducible refine' TE.mapp ?k0 ?k1 ?k2 ?_ ?k4 ?k5 ?k6); (case k0 => rfl); (case k1 => rfl); (case k2 => exact ⟨_, by k_caughtN0⟩); (case k4 => intro _; rfl); (case k5 => intro _; rfl); (case k6 => rfl)) | ((with_reducible refine' TItem.listG ?k0 ?k1 ?k2 (fun _ _ => ?_) ?k4); (case k0 => k_caughtN0); (case k1 => (first | lia | omega)); (case k2 => (first | lia | omega)); (case k4 => intro _ _; rfl)) | (with_reducible refine CallB.intB ?_) | (with_reducible refine TE.neg ?_) | ((with_reducible refine isCall ?_); (refine' CallF.of (Nat.lt_succ_self _) rfl (lthr_call ?k0 ?k1 ?_); (case k0 => k_caughtN0); (case k1 => assumption))) | ((with_reducible refine isCall ?_); (refine' CallF.of (Nat.lt_succ_self _) rfl (ladapted_call ?k0 ?k1 ?_ ?_ ?_); (case k0 => k_caughtN0); (case k1 => assumption))) | k_caughtB | ((with_reducible refine' TS.asgS3 ?_ ?k1 ?k2 ?k3 ?k4 ?k5 ?k6); (case k1 => intro _; rfl); (case k2 => intro _; rfl); (case k3 => intro _; rfl); (case k4 => intro _ _; rfl); (case k5 => intro env e; cases env; dsimp only at e; subst e; rfl); (case k6 => rfl)))
    refine ⟨p, _, rfl, Np1, fun k σ => σ.H = H1 ++ [.list (((page.take k).filter (fun a => decide (a < w.first))).map V.int)], rfl, fun k σ e => by rw [e]; exact get_left Np1 _, ?_, ?_⟩
    · rintro k ⟨loc, H'⟩ hk eH v hv
      dsimp only at eH
      subst eH
      obtain ⟨a, ha, rfl⟩ := get_map hv
      refine TAsg.forg (loc' := []) Has.nil ?_
      repeat' (first | (with_reducible refine TTests.one ?_) | ((with_reducible refine' TE.mapp ?k0 ?k1 ?k2 ?_ ?k4 ?k5 ?k6); (case k0 => rfl); (case k1 => rfl); (case k2 => exact ⟨_, by k_caughtN0⟩); (case k4 => intro _; rfl); (case k5 => intro _; rfl); (case k6 => rfl)) | ((with_reducible refine' TItem.listG ?k0 ?k1 ?k2 (fun _ _ => ?_) ?k4); (case k0 => k_caughtN0); (case k1 => (first | lia | omega)); (case k2 => (first | lia | omega)); (case k4 => intro _ _; rfl)) | (with_reducible refine CallB.intB ?_) | (with_reducible refine TE.neg ?_) | ((with_reducible refine isCall ?_); (refine' CallF.of (Nat.lt_succ_self _) rfl (lthr_call ?k0 ?k1 ?_); (case k0 => k_caughtN0); (case k1 => assumption))) | ((with_reducible refine isCall ?_); (refine' CallF.of (Nat.lt_succ_self _) rfl (ladapted_call ?k0 ?k1 ?_ ?_ ?_); (case k0 => k_caughtN0); (case k1 => assumption))) | k_caughtB | ((with_reducible refine' TS.asgS3 ?_ ?k1 ?k2 ?k3 ?k4 ?k5 ?k6); (case k1 => intro _; rfl); (case k2 => intro _; rfl); (case k3 => intro _; rfl); (case k4 => intro _ _; rfl); (case k5 => intro env e; cases env; dsimp only at e; subst e; rfl); (case k6 => rfl)))
      · rename_i z
        refine ⟨_, get_at _ _ [], ?_, ?_⟩
        · have h1 := List.length_filter_le (fun a => decide (a < w.first)) (page.take k)
          have h2 : (page.take k).length ≤ page.length := by rw [List.length_take]; (first | lia | omega)
          simp only [List.length_map]
          (first | lia | omega)
        · dsimp only
          rw [set_at, take_succ ha, List.filter_append, List.filter_cons_of_pos (by simpa using z), List.map_append]
          rfl
      · rename_i z
        dsimp only
        rw [take_succ ha, List.filter_append, List.filter_cons_of_neg (by simpa using z)]
        simp
    · rintro ⟨loc, H'⟩ eH
      dsimp only at eH
      rw [List.length_map, List.take_length] at eH
      subst eH
      repeat' (first | (with_reducible refine TTests.one ?_) | ((with_reducible refine' TE.mapp ?k0 ?k1 ?k2 ?_ ?k4 ?k5 ?k6); (case k0 => rfl); (case k1 => rfl); (case k2 => exact ⟨_, by k_caughtN0⟩); (case k4 => intro _; rfl); (case k5 => intro _; rfl); (case k6 => rfl)) | ((with_reducible refine' TItem.listG ?k0 ?k1 ?k2 (fun _ _ => ?_) ?k4); (case k0 => k_caughtN0); (case k1 => (first | lia | omega)); (case k2 => (first | lia | omega)); (case k4 => intro _ _; rfl)) | (with_reducible refine CallB.intB ?_) | (with_reducible refine TE.neg ?_) | ((with_reducible refine isCall ?_); (refine' CallF.of (Nat.lt_succ_self _) rfl (lthr_call ?k0 ?k1 ?_); (case k0 => k_caughtN0); (case k1 => assumption))) | ((with_reducible refine isCall ?_); (refine' CallF.of (Nat.lt_succ_self _) rfl (ladapted_call ?k0 ?k1 ?_ ?_ ?_); (case k0 => k_caughtN0); (case k1 => assumption))) | k_caughtB | ((with_reducible refine' TS.asgS3 ?_ ?k1 ?k2 ?k3 ?k4 ?k5 ?k6); (case k1 => intro _; rfl); (case k2 => intro _; rfl); (case k3 => intro _; rfl); (case k4 => intro _ _; rfl); (case k5 => intro env e; cases env; dsimp only at e; subst e; rfl); (case k6 => rfl)))
      exact hQ2 .next _ ⟨_, H1.length, rfl, get_at _ _ [], by k_caughtNB⟩
  rintro ⟨loc, H'⟩ ⟨T, lp, eH, g1, hl⟩
  dsimp only at eH
  subst eH
  refine TSs.forg hl ?_
  have hpl : (plainOf w page).length ≤ page.length := List.length_filter_le _ _
  refine TSs.cut1 (fun σ => ∃ T lf, σ.H = H1 ++ T ∧ (H1 ++ T)[lf]? = some (.list ((plainOf w page ++ (if plainOf w page = [] then [] else [45])).map V.int)) ∧ H1.length ≤ lf ∧ Has σ.loc [("found", .ref lf), ("many", .int (plainOf w page).length)]) (TS.opq fun Q2 hQ2 => ?_) ?_
  · repeat' (first | (with_reducible refine TTests.one ?_) | ((with_reducible refine' TE.mapp ?k0 ?k1 ?k2 ?_ ?k4 ?k5 ?k6); (case k0 => rfl); (case k1 => rfl); (case k2 => exact ⟨_, by k_caughtN0⟩); (case k4 => intro _; rfl); (case k5 => intro _; rfl); (case k6 => rfl)) | ((with_reducible refine' TItem.listG ?k0 ?k1 ?k2 (fun _ _ => ?_) ?k4); (case k0 => k_caughtN0); (case k1 => (first | lia | omega)); (case k2 => (first | lia | omega)); (case k4 => intro _ _; rfl)) | (with_reducible refine CallB.intB ?_) | (with_reducible refine TE.neg ?_) | ((with_reducible refine isCall ?_); (refine' CallF.of (Nat.lt_succ_self _) rfl (lthr_call ?k0 ?k1 ?_); (case k0 => k_caughtN0); (case k1 => assumption))) | ((with_reducible refine isCall ?_); (refine' CallF.of (Nat.lt_succ_self _) rfl (ladapted_call ?k0 ?k1 ?_ ?_ ?_); (case k0 => k_caughtN0); (case k1 => assumption))) | k_caughtB | ((with_reducible refine' TS.asgS3 ?_ ?k1 ?k2 ?k3 ?k4 ?k5 ?k6); (case k1 => intro _; rfl); (case k2 => intro _; rfl); (case k3 => intro _; rfl); (case k4 => intro _ _; rfl); (case k5 => intro env e; cases env; dsimp only at e; subst e; rfl); (case k6 => rfl)))
    refine Op2.neL (ns := plainOf w page) (ms := []) (get_left (get_left g1 _) _) (get_at _ _ []) ?_
    repeat' (first | (with_reducible refine TTests.one ?_) | ((with_reducible refine' TE.mapp ?k0 ?k1 ?k2 ?_ ?k4 ?k5 ?k6); (case k0 => rfl); (case k1 => rfl); (case k2 => exact ⟨_, by k_caughtN0⟩); (case k4 => intro _; rfl); (case k5 => intro _; rfl); (case k6 => rfl)) | ((with_reducible refine' TItem.listG ?k0 ?k1 ?k2 (fun _ _ => ?_) ?k4); (case k0 => k_caughtN0); (case k1 => (first | lia | omega)); (case k2 => (first | lia | omega)); (case k4 => intro _ _; rfl)) | (with_reducible refine CallB.intB ?_) | (with_reducible refine TE.neg ?_) | ((with_reducible refine isCall ?_); (refine' CallF.of (Nat.lt_succ_self _) rfl (lthr_call ?k0 ?k1 ?_); (case k0 => k_caughtN0); (case k1 => assumption))) | ((with_reducible refine isCall ?_); (refine' CallF.of (Nat.lt_succ_self _) rfl (ladapted_call ?k0 ?k1 ?_ ?_ ?_); (case k0 => k_caughtN0); (case k1 => assumption))) | k_caughtB | ((with_reducible refine' TS.asgS3 ?_ ?k1 ?k2 ?k3 ?k4 ?k5 ?k6); (case k1 => intro _; rfl); (case k2 => intro _; rfl); (case k3 => intro _; rfl); (case k4 => intro _ _; rfl); (case k5 => intro env e; cases env; dsimp only at e; subst e; rfl); (case k6 => rfl)))
    refine Op2.mulN (vs := [.int 45]) (get_left (get_at _ _ []) _) (by simp) (by split <;> decide) (by split <;> simp) (by split <;> decide) ?_
    have hfl : (List.replicate ((if (!decide (plainOf w page = [])) = true then 1 else 0 : Int)).toNat [V.int 45]).flatten = (if plainOf w page = [] then [] else [45]).map V.int := by
      by_cases z : plainOf w page = []
      · simp [z]
      · simp [z]
    rw [hfl]
    repeat' (first | (with_reducible refine TTests.one ?_) | ((with_reducible refine' TE.mapp ?k0 ?k1 ?k2 ?_ ?k4 ?k5 ?k6); (case k0 => rfl); (case k1 => rfl); (case k2 => exact ⟨_, by k_caughtN0⟩); (case k4 => intro _; rfl); (case k5 => intro _; rfl); (case k6 => rfl)) | ((with_reducible refine' TItem.listG ?k0 ?k1 ?k2 (fun _ _ => ?_) ?k4); (case k0 => k_caughtN0); (case k1 => (first | lia | omega)); (case k2 => (first | lia | omega)); (case k4 => intro _ _; rfl)) | (with_reducible refine CallB.intB ?_) | (with_reducible refine TE.neg ?_) | ((with_reducible refine isCall ?_); (refine' CallF.of (Nat.lt_succ_self _) rfl (lthr_call ?k0 ?k1 ?_); (case k0 => k_caughtN0); (case k1 => assumption))) | ((with_reducible refine isCall ?_); (refine' CallF.of (Nat.lt_succ_self _) rfl (ladapted_call ?k0 ?k1 ?_ ?_ ?_); (case k0 => k_caughtN0); (case k1 => assumption))) | k_caughtB | ((with_reducible refine' TS.asgS3 ?_ ?k1 ?k2 ?k3 ?k4 ?k5 ?k6); (case k1 => intro _; rfl); (case k2 => intro _; rfl); (case k3 => intro _; rfl); (case k4 => intro _ _; rfl); (case k5 => intro env e; cases env; dsimp only at e; subst e; rfl); (case k6 => rfl)))
    refine Op2.addL (get_left (get_left (get_left g1 _) _) _) (get_at _ _ []) (by simp only [List.length_map]; split <;> simp <;> (first | lia | omega)) ?_
    repeat' (first | (with_reducible refine TTests.one ?_) | ((with_reducible refine' TE.mapp ?k0 ?k1 ?k2 ?_ ?k4 ?k5 ?k6); (case k0 => rfl); (case k1 => rfl); (case k2 => exact ⟨_, by k_caughtN0⟩); (case k4 => intro _; rfl); (case k5 => intro _; rfl); (case k6 => rfl)) | ((with_reducible refine' TItem.listG ?k0 ?k1 ?k2 (fun _ _ => ?_) ?k4); (case k0 => k_caughtN0); (case k1 => (first | lia | omega)); (case k2 => (first | lia | omega)); (case k4 => intro _ _; rfl)) | (with_reducible refine CallB.intB ?_) | (with_reducible refine TE.neg ?_) | ((with_reducible refine isCall ?_); (refine' CallF.of (Nat.lt_succ_self _) rfl (lthr_call ?k0 ?k1 ?_); (case k0 => k_caughtN0); (case k1 => assumption))) | ((with_reducible refine isCall ?_); (refine' CallF.of (Nat.lt_succ_self _) rfl (ladapted_call ?k0 ?k1 ?_ ?_ ?_); (case k0 => k_caughtN0); (case k1 => assumption))) | k_caughtB | ((with_reducible refine' TS.asgS3 ?_ ?k1 ?k2 ?k3 ?k4 ?k5 ?k6); (case k1 => intro _; rfl); (case k2 => intro _; rfl); (case k3 => intro _; rfl); (case k4 => intro _ _; rfl); (case k5 => intro env e; cases env; dsimp only at e; subst e; rfl); (case k6 => rfl)))
    refine CallB.len (get_left (get_left (get_left (get_left g1 _) _) _) _) ?_
    repeat' (first | (with_reducible refine TTests.one ?_) | ((with_reducible refine' TE.mapp ?k0 ?k1 ?k2 ?_ ?k4 ?k5 ?k6); (case k0 => rfl); (case k1 => rfl); (case k2 => exact ⟨_, by k_caughtN0⟩); (case k4 => intro _; rfl); (case k5 => intro _; rfl); (case k6 => rfl)) | ((with_reducible refine' TItem.listG ?k0 ?k1 ?k2 (fun _ _ => ?_) ?k4); (case k0 => k_caughtN0); (case k1 => (first | lia | omega)); (case k2 => (first | lia | omega)); (case k4 => intro _ _; rfl)) | (with_reducible refine CallB.intB ?_) | (with_reducible refine TE.neg ?_) | ((with_reducible refine isCall ?_); (refine' CallF.of (Nat.lt_succ_self _) rfl (lthr_call ?k0 ?k1 ?_); (case k0 => k_caughtN0); (case k1 => assumption))) | ((with_reducible refine isCall ?_); (refine' CallF.of (Nat.lt_succ_self _) rfl (ladapted_call ?k0 ?k1 ?_ ?_ ?_); (case k0 => k_caughtN0); (case k1 => assumption))) | k_caughtB | ((with_reducible refine' TS.asgS3 ?_ ?k1 ?k2 ?k3 ?k4 ?k5 ?k6); (case k1 => intro _; rfl); (case k2 => intro _; rfl); (case k3 => intro _; rfl); (case k4 => intro _ _; rfl); (case k5 => intro env e; cases env; dsimp only at e; subst e; rfl); (case k6 => rfl)))
    refine hQ2 .next _ ⟨T ++ [.list [.int 45], .list [], .list ((if plainOf w page = [] then [] else [45]).map V.int), .list ((plainOf w page ++ (if plainOf w page = [] then [] else [45])).map V.int)], (H1 ++ T).length + 3, by simp, by rw [← List.append_assoc]; exact get_at3 _ _ _ _ _ _, by simp; (first | lia | omega), ?_⟩
    refine .cons (.cons .nil ?_) ?_
    · show some (V.int _) = some (V.int _)
      rw [List.length_map]
    · show some (V.ref _) = some (V.ref _)
      congr 2
      simp
      (first | lia | omega)
  clear T lp g1 hl
  rintro ⟨loc, H'⟩ ⟨T, lf, eH, g1, hlf, hl⟩
  dsimp only at eH
  subst eH
  refine TSs.forg hl ?_
  refine TSs.cut1 (fun σ => σ.H = H1 ++ T ∧ Has σ.loc [("found", .ref lf), ("many", .int (plainOf w page).length), ("state", .int w.first), ("place", .int 0), ("bias", .int w.bias)]) (TS.opq fun Q2 hQ2 => ?_) ?_
  · repeat' (first | (with_reducible refine TTests.one ?_) | ((with_reducible refine' TE.mapp ?k0 ?k1 ?k2 ?_ ?k4 ?k5 ?k6); (case k0 => rfl); (case k1 => rfl); (case k2 => exact ⟨_, by k_caughtN0⟩); (case k4 => intro _; rfl); (case k5 => intro _; rfl); (case k6 => rfl)) | ((with_reducible refine' TItem.listG ?k0 ?k1 ?k2 (fun _ _ => ?_) ?k4); (case k0 => k_caughtN0); (case k1 => (first | lia | omega)); (case k2 => (first | lia | omega)); (case k4 => intro _ _; rfl)) | (with_reducible refine CallB.intB ?_) | (with_reducible refine TE.neg ?_) | ((with_reducible refine isCall ?_); (refine' CallF.of (Nat.lt_succ_self _) rfl (lthr_call ?k0 ?k1 ?_); (case k0 => k_caughtN0); (case k1 => assumption))) | ((with_reducible refine isCall ?_); (refine' CallF.of (Nat.lt_succ_self _) rfl (ladapted_call ?k0 ?k1 ?_ ?_ ?_); (case k0 => k_caughtN0); (case k1 => assumption))) | k_caughtB | ((with_reducible refine' TS.asgS3 ?_ ?k1 ?k2 ?k3 ?k4 ?k5 ?k6); (case k1 => intro _; rfl); (case k2 => intro _; rfl); (case k3 => intro _; rfl); (case k4 => intro _ _; rfl); (case k5 => intro env e; cases env; dsimp only at e; subst e; rfl); (case k6 => rfl)))
    refine hQ2 .next _ ⟨rfl, ?_⟩
    k_caughtNB
  rintro ⟨loc, H'⟩ ⟨eH, hl⟩
  dsimp only at eH
  subst eH
  refine TSs.forg hl ?_
  refine TSs.cut1 (fun σ => ∃ T' lo rs, σ.H = (H1 ++ T) ++ T' ∧ ((H1 ++ T) ++ T')[lo]? = some (.list (rs.map V.ref)) ∧ lo ≠ lf ∧ H1.length ≤ lo ∧ Pairs2 ((H1 ++ T) ++ T') rs ps ∧ ps.length ≤ 6 ∧ Has σ.loc [("others", .ref lo), ("found", .ref lf), ("many", .int (plainOf w page).length), ("state", .int w.first), ("place", .int 0), ("bias", .int w.bias)]) (TS.opq fun Q2 hQ2 => ?_) ?_
  · repeat' (first | (with_reducible refine TTests.one ?_) | ((with_reducible refine' TE.mapp ?k0 ?k1 ?k2 ?_ ?k4 ?k5 ?k6); (case k0 => rfl); (case k1 => rfl); (case k2 => exact ⟨_, by k_caughtN0⟩); (case k4 => intro _; rfl); (case k5 => intro _; rfl); (case k6 => rfl)) | ((with_reducible refine' TItem.listG ?k0 ?k1 ?k2 (fun _ _ => ?_) ?k4); (case k0 => k_caughtN0); (case k1 => (first | lia | omega)); (case k2 => (first | lia | omega)); (case k4 => intro _ _; rfl)) | (with_reducible refine CallB.intB ?_) | (with_reducible refine TE.neg ?_) | ((with_reducible refine isCall ?_); (refine' CallF.of (Nat.lt_succ_self _) rfl (lthr_call ?k0 ?k1 ?_); (case k0 => k_caughtN0); (case k1 => assumption))) | ((with_reducible refine isCall ?_); (refine' CallF.of (Nat.lt_succ_self _) rfl (ladapted_call ?k0 ?k1 ?_ ?_ ?_); (case k0 => k_caughtN0); (case k1 => assumption))) | k_caughtB | ((with_reducible refine' TS.asgS3 ?_ ?k1 ?k2 ?k3 ?k4 ?k5 ?k6); (case k1 => intro _; rfl); (case k2 => intro _; rfl); (case k3 => intro _; rfl); (case k4 => intro _ _; rfl); (case k5 => intro env e; cases env; dsimp only at e; subst e; rfl); (case k6 => rfl)))
    refine TE.compB (TIt.enum rfl (by intro P; k_is) rfl (by decide) ?_ (by intro _; rfl) (by intro _; rfl) (by intro _; rfl) rfl) (by intro _ _; rfl) rfl rfl rfl rfl
    repeat' (first | (with_reducible refine TTests.one ?_) | ((with_reducible refine' TE.mapp ?k0 ?k1 ?k2 ?_ ?k4 ?k5 ?k6); (case k0 => rfl); (case k1 => rfl); (case k2 => exact ⟨_, by k_caughtN0⟩); (case k4 => intro _; rfl); (case k5 => intro _; rfl); (case k6 => rfl)) | ((with_reducible refine' TItem.listG ?k0 ?k1 ?k2 (fun _ _ => ?_) ?k4); (case k0 => k_caughtN0); (case k1 => (first | lia | omega)); (case k2 => (first | lia | omega)); (case k4 => intro _ _; rfl)) | (with_reducible refine CallB.intB ?_) | (with_reducible refine TE.neg ?_) | ((with_reducible refine isCall ?_); (refine' CallF.of (Nat.lt_succ_self _) rfl (lthr_call ?k0 ?k1 ?_); (case k0 => k_caughtN0); (case k1 => assumption))) | ((with_reducible refine isCall ?_); (refine' CallF.of (Nat.lt_succ_self _) rfl (ladapted_call ?k0 ?k1 ?_ ?_ ?_); (case k0 => k_caughtN0); (case k1 => assumption))) | k_caughtB | ((with_reducible refine' TS.asgS3 ?_ ?k1 ?k2 ?k3 ?k4 ?k5 ?k6); (case k1 => intro _; rfl); (case k2 => intro _; rfl); (case k3 => intro _; rfl); (case k4 => intro _ _; rfl); (case k5 => intro env e; cases env; dsimp only at e; subst e; rfl); (case k6 => rfl)))
    refine .inl ⟨p, _, rfl, get_left Np1 _, fun k σ => ∃ rs T', σ.H = (H1 ++ T) ++ .list (rs.map V.ref) :: T' ∧ Pairs2 ((H1 ++ T) ++ .list (rs.map V.ref) :: T') rs (prs page w.first k) ∧ ∀ r ∈ rs, r ≠ (H1 ++ T).length, ⟨[], [], rfl, .nil, by simp⟩, fun k σ e => by obtain ⟨rs, T', e, _⟩ := e; rw [e]; exact get_left (get_left Np1 _) _, ?_, ?_⟩
    · rintro k ⟨loc, H'⟩ hk ⟨rs, T', eH, hP, hr⟩ v hv
      dsimp only at eH
      subst eH
      obtain ⟨a, ha, rfl⟩ := get_map hv
      refine TAsgs.forg (loc' := []) Has.nil ?_
      repeat' (first | (with_reducible refine TTests.one ?_) | ((with_reducible refine' TE.mapp ?k0 ?k1 ?k2 ?_ ?k4 ?k5 ?k6); (case k0 => rfl); (case k1 => rfl); (case k2 => exact ⟨_, by k_caughtN0⟩); (case k4 => intro _; rfl); (case k5 => intro _; rfl); (case k6 => rfl)) | ((with_reducible refine' TItem.listG ?k0 ?k1 ?k2 (fun _ _ => ?_) ?k4); (case k0 => k_caughtN0); (case k1 => (first | lia | omega)); (case k2 => (first | lia | omega)); (case k4 => intro _ _; rfl)) | (with_reducible refine CallB.intB ?_) | (with_reducible refine TE.neg ?_) | ((with_reducible refine isCall ?_); (refine' CallF.of (Nat.lt_succ_self _) rfl (lthr_call ?k0 ?k1 ?_); (case k0 => k_caughtN0); (case k1 => assumption))) | ((with_reducible refine isCall ?_); (refine' CallF.of (Nat.lt_succ_self _) rfl (ladapted_call ?k0 ?k1 ?_ ?_ ?_); (case k0 => k_caughtN0); (case k1 => assumption))) | k_caughtB | ((with_reducible refine' TS.asgS3 ?_ ?k1 ?k2 ?k3 ?k4 ?k5 ?k6); (case k1 => intro _; rfl); (case k2 => intro _; rfl); (case k3 => intro _; rfl); (case k4 => intro _ _; rfl); (case k5 => intro env e; cases env; dsimp only at e; subst e; rfl); (case k6 => rfl)))
      · rename_i z
        refine ⟨rs.map V.ref, get_left (get_at _ _ _) _, ?_, rs ++ [(H1 ++ T ++ .list (rs.map V.ref) :: T').length], T' ++ [.tuple [.int a, .int k]], ?_, ?_, ?_⟩
        · have := hP.length
          have h2 := prs_len page w.first k
          rw [List.length_map] at hk ⊢
          (first | lia | omega)
        · dsimp only
          rw [List.append_assoc _ (_ :: _), List.cons_append, set_at, List.map_append]
          rfl
        · rw [prs_hit ha z]
          refine pairs2_snoc (pairs2_mono hP fun r h o ho => get_mid ho (hr r h)) ?_
          exact get_end
        · intro r h
          rcases List.mem_append.mp h with h | h
          · exact hr r h
          · rw [List.mem_singleton] at h
            subst h
            simp
      · rename_i z
        exact ⟨rs, T', rfl, by rw [prs_miss ha z]; exact hP, hr⟩
    · rintro ⟨loc, H'⟩ ⟨rs, T', eH, hP, hr⟩
      dsimp only at eH
      rw [List.length_map] at hP
      subst eH
      repeat' (first | (with_reducible refine TTests.one ?_) | ((with_reducible refine' TE.mapp ?k0 ?k1 ?k2 ?_ ?k4 ?k5 ?k6); (case k0 => rfl); (case k1 => rfl); (case k2 => exact ⟨_, by k_caughtN0⟩); (case k4 => intro _; rfl); (case k5 => intro _; rfl); (case k6 => rfl)) | ((with_reducible refine' TItem.listG ?k0 ?k1 ?k2 (fun _ _ => ?_) ?k4); (case k0 => k_caughtN0); (case k1 => (first | lia | omega)); (case k2 => (first | lia | omega)); (case k4 => intro _ _; rfl)) | (with_reducible refine CallB.intB ?_) | (with_reducible refine TE.neg ?_) | ((with_reducible refine isCall ?_); (refine' CallF.of (Nat.lt_succ_self _) rfl (lthr_call ?k0 ?k1 ?_); (case k0 => k_caughtN0); (case k1 => assumption))) | ((with_reducible refine isCall ?_); (refine' CallF.of (Nat.lt_succ_self _) rfl (ladapted_call ?k0 ?k1 ?_ ?_ ?_); (case k0 => k_caughtN0); (case k1 => assumption))) | k_caughtB | ((with_reducible refine' TS.asgS3 ?_ ?k1 ?k2 ?k3 ?k4 ?k5 ?k6); (case k1 => intro _; rfl); (case k2 => intro _; rfl); (case k3 => intro _; rfl); (case k4 => intro _ _; rfl); (case k5 => intro env e; cases env; dsimp only at e; subst e; rfl); (case k6 => rfl)))
      refine CallB.sorted (get_at _ _ _) hP (prs_nodup _) (Nat.le_trans (prs_len ..) hz) fun rs' qs hQ h1 h2 => ?_
      obtain rfl := (prs_is h1 h2).uniq hp
      repeat' (first | (with_reducible refine TTests.one ?_) | ((with_reducible refine' TE.mapp ?k0 ?k1 ?k2 ?_ ?k4 ?k5 ?k6); (case k0 => rfl); (case k1 => rfl); (case k2 => exact ⟨_, by k_caughtN0⟩); (case k4 => intro _; rfl); (case k5 => intro _; rfl); (case k6 => rfl)) | ((with_reducible refine' TItem.listG ?k0 ?k1 ?k2 (fun _ _ => ?_) ?k4); (case k0 => k_caughtN0); (case k1 => (first | lia | omega)); (case k2 => (first | lia | omega)); (case k4 => intro _ _; rfl)) | (with_reducible refine CallB.intB ?_) | (with_reducible refine TE.neg ?_) | ((with_reducible refine isCall ?_); (refine' CallF.of (Nat.lt_succ_self _) rfl (lthr_call ?k0 ?k1 ?_); (case k0 => k_caughtN0); (case k1 => assumption))) | ((with_reducible refine isCall ?_); (refine' CallF.of (Nat.lt_succ_self _) rfl (ladapted_call ?k0 ?k1 ?_ ?_ ?_); (case k0 => k_caughtN0); (case k1 => assumption))) | k_caughtB | ((with_reducible refine' TS.asgS3 ?_ ?k1 ?k2 ?k3 ?k4 ?k5 ?k6); (case k1 => intro _; rfl); (case k2 => intro _; rfl); (case k3 => intro _; rfl); (case k4 => intro _ _; rfl); (case k5 => intro env e; cases env; dsimp only at e; subst e; rfl); (case k6 => rfl)))
      refine hQ2 .next _ ⟨.list (rs.map V.ref) :: (T' ++ [.list (rs'.map V.ref)]), (H1 ++ T ++ .list (rs.map V.ref) :: T').length, rs', by simp, ?_, ?_, ?_, ?_, ?_, by k_caughtNB⟩
      · rw [show H1 ++ T ++ .list (rs.map V.ref) :: (T' ++ [.list (rs'.map V.ref)]) = (H1 ++ T ++ .list (rs.map V.ref) :: T') ++ [.list (rs'.map V.ref)] by simp]
        exact get_at _ _ []
      · have := (List.getElem?_eq_some_iff.mp g1).1
        intro z
        rw [← z] at this
        simp at this
        (first | lia | omega)
      · simp
      · exact pairs2_mono hQ fun r h o ho => by
          rw [show H1 ++ T ++ .list (rs.map V.ref) :: (T' ++ [.list (rs'.map V.ref)]) = (H1 ++ T ++ .list (rs.map V.ref) :: T') ++ [.list (rs'.map V.ref)] by simp]
          exact get_left ho _
      · exact Nat.le_trans (sub_len (hp.1.imp fun h e => by rw [e, plt_iff] at h; (first | lia | omega)) fun q hq => (h2 q).mp hq) (Nat.le_trans (prs_len ..) hz)
  rintro ⟨loc, H'⟩ hI
  refine opaq fun P kP => ?_
  obtain ⟨T', lo, rs, eH, g2, hlo, hlo1, hP, hps, hl⟩ := hI
  dsimp only at eH
  subst eH
  refine kP (TSs.forg hl ?_)
  clear kP P
  have hH1l : H1.length = H.length + 4 ∨ H.length + 4 ≤ H1.length := by
    right
    have := (List.getElem?_eq_some_iff.mp c3).1
    (first | lia | omega)
  have hlf' : H.length + 3 < lf := by (first | lia | omega)
  have hlo' : H.length + 3 < lo := by (first | lia | omega)
  have hi := (List.getElem?_eq_some_iff.mp N).1
  have hpp := (List.getElem?_eq_some_iff.mp Np).1
  have W0 : WF H (H1 ++ T ++ T') lf none none (plainOf w page ++ (if plainOf w page = [] then [] else [45])) (H1 ++ T ++ T') := by
    obtain ⟨T0, e⟩ := hH1
    exact ⟨⟨T0 ++ T ++ T', by rw [e]; simp⟩, get_left (get_left c0 _) _, get_left (get_left c1 _) _, get_left g1 _, fun _ _ _ _ _ k => k⟩
  have b2 := get_left (get_left c2 T) T'
  have b3 := get_left (get_left c3 T) T'
  have bi := get_left (get_left N1 T) T'
  have bp := get_left (get_left Np1 T) T'
  generalize H1 ++ T ++ T' = H4 at *
  clear N1 Np1 c0 c1 c2 c3 g1 hH1 hl
  have ctx : ∀ {u v fs G}, WF H H4 lf u v fs G → G[H.length + 2]? = some (.cell (some (.ref p))) ∧ G[H.length + 3]? = some (.cell (some (.ref i))) ∧ G[i]? = some (.map w.fs) ∧ G[p]? = some (.list (page.map V.int)) ∧ G[lo]? = some (.list (rs.map V.ref)) := fun {u v fs G} W =>
    ⟨W.2.2.2.2 _ _ (by (first | lia | omega)) (by (first | lia | omega)) (by (first | lia | omega)) b2, W.2.2.2.2 _ _ (by (first | lia | omega)) (by (first | lia | omega)) (by (first | lia | omega)) b3, W.2.2.2.2 _ _ (by (first | lia | omega)) (by (first | lia | omega)) (by (first | lia | omega)) bi, W.2.2.2.2 _ _ (by (first | lia | omega)) (by (first | lia | omega)) (by (first | lia | omega)) bp, W.2.2.2.2 _ _ (by (first | lia | omega)) (by (first | lia | omega)) (by (first | lia | omega)) g2⟩
  have lP : ∀ {k r : Nat}, rs[k]? = some r → ∃ q : Pr, ps[k]? = some q ∧ ∀ {u v fs G}, WF H H4 lf u v fs G → G[r]? = some (.tuple [.int q.1, .int q.2]) := fun {k r} hk => by
    obtain ⟨q, hq, hr⟩ := pairs2_get hP hk
    refine ⟨q, hq, fun {u v fs G} W => W.2.2.2.2 _ _ ?_ ?_ ?_ hr⟩
    · rintro rfl; rw [W0.2.1] at hr; cases hr
    · rintro rfl; rw [W0.2.2.1] at hr; cases hr
    · rintro rfl; rw [W0.2.2.2.1] at hr; cases hr
  have hplen := hP.length
  refine TSs.cons ?_
  have k0 : Has [("others", .ref lo), ("found", .ref lf), ("many", .int ((plainOf w page).length + 0 : Nat)), ("state", .int w.first), ("place", .int 0), ("bias", .int w.bias)] [("others", .ref lo), ("found", .ref lf), ("many", .int ((plainOf w page).length + 0 : Nat)), ("state", .int w.first), ("place", .int 0), ("bias", .int w.bias)] := by k_caughtNB
  refine TS.for_ (TIt.enum rfl (by intro P; k_is) rfl (by decide) ?_ (by intro _; rfl) (by intro _; rfl) (by intro _; rfl) rfl) (by intro _ _; rfl)
  repeat' (first | (with_reducible refine TTests.one ?_) | ((with_reducible refine' TE.mapp ?k0 ?k1 ?k2 ?_ ?k4 ?k5 ?k6); (case k0 => rfl); (case k1 => rfl); (case k2 => exact ⟨_, by k_caughtN0⟩); (case k4 => intro _; rfl); (case k5 => intro _; rfl); (case k6 => rfl)) | ((with_reducible refine' TItem.listG ?k0 ?k1 ?k2 (fun _ _ => ?_) ?k4); (case k0 => k_caughtN0); (case k1 => (first | lia | omega)); (case k2 => (first | lia | omega)); (case k4 => intro _ _; rfl)) | (with_reducible refine CallB.intB ?_) | (with_reducible refine TE.neg ?_) | ((with_reducible refine isCall ?_); (refine' CallF.of (Nat.lt_succ_self _) rfl (lthr_call ?k0 ?k1 ?_); (case k0 => k_caughtN0); (case k1 => assumption))) | ((with_reducible refine isCall ?_); (refine' CallF.of (Nat.lt_succ_self _) rfl (ladapted_call ?k0 ?k1 ?_ ?_ ?_); (case k0 => k_caughtN0); (case k1 => assumption))) | k_caughtB | ((with_reducible refine' TS.asgS3 ?_ ?k1 ?k2 ?k3 ?k4 ?k5 ?k6); (case k1 => intro _; rfl); (case k2 => intro _; rfl); (case k3 => intro _; rfl); (case k4 => intro _ _; rfl); (case k5 => intro env e; cases env; dsimp only at e; subst e; rfl); (case k6 => rfl)))
  refine .inl ⟨lo, _, rfl, (ctx W0).2.2.2.2, (WrF H H4 lf lo w page ps),
    ⟨_, none, none, w.first, 0, w.bias, W0, (show Has _ [("others", .ref lo), ("found", .ref lf), ("many", .int ((plainOf w page).length + 0 : Nat)), ("state", .int w.first), ("place", .int 0), ("bias", .int w.bias)] from k0), by simp only [List.length_append]; split <;> simp <;> (first | lia | omega), rfl, g⟩, fun k σ e => by obtain ⟨_, _, _, _, _, _, e, _⟩ := e; exact (ctx e).2.2.2.2, ?_, ?_⟩
  · rintro k ⟨loc, G⟩ hk hI vr hv
    refine TAsgs.opq fun Q' hQ' => ?_
    refine opaq fun P kP => ?_
    obtain ⟨fs, u, v, state, place, b, W, hl, hfs, etl, hg⟩ := hI
    obtain ⟨r, hr, rfl⟩ : ∃ r, rs[k]? = some r ∧ vr = .ref r := by
      rw [List.getElem?_map] at hv
      cases z : rs[k]? with
      | none => rw [z] at hv; cases hv
      | some c => rw [z] at hv; cases hv; exact ⟨c, rfl, rfl⟩
    obtain ⟨⟨o, ai⟩, hq, hrt⟩ := lP hr
    have hqm := (hp.2 _).mp (List.mem_of_getElem? hq)
    obtain ⟨q0, qa, qf⟩ := hqm
    dsimp only at q0 qa qf
    obtain ⟨n, rfl⟩ : ∃ n : Nat, ai = n := ⟨ai.toNat, by (first | lia | omega)⟩
    rw [show ((n : Int)).toNat = n from rfl] at qa
    have hn := (List.getElem?_eq_some_iff.mp qa).1
    refine kP (TAsgs.forg hl ?_)
    clear kP P
    refine TAsgs.cons (TAsg.name (TStore.loc rfl ?_)) (by intro _; rfl)
    refine TAsgs.cons (TAsg.tupRef (hrt W) ?_ rfl (by intro _; rfl) (by intro _; rfl)) (by intro _; rfl)
    refine TAsgs.cons (TAsg.name (TStore.cell rfl rfl W.2.2.1 ?_)) (by intro _; rfl)
    have W1 := W.put1 (by (first | lia | omega)) (some (.int o))
    refine TAsgs.cons (TAsg.name (TStore.cell rfl rfl W1.2.1 ?_)) (by intro _; rfl)
    have W2 := W1.put0 (by (first | lia | omega)) (some (.int n))
    refine TAsgs.nil (TAsgs.nil ?_)
    dsimp only at W1 W2 ⊢
    generalize (G.set (H.length + 1) (.cell (some (.int o)))).set H.length (.cell (some (.int n))) = G1 at *
    clear W W1 hl
    refine TSs.forg (loc' := [("others", .ref lo), ("found", .ref lf), ("many", .int ((plainOf w page).length + k : Nat)), ("state", .int state), ("place", .int place), ("bias", .int b), ("turn", .int k)]) (by k_caughtNB) ?_
    obtain ⟨x2, x3, xi, xp, xo⟩ := ctx W2
    have xA := W2.2.1
    have xC := W2.2.2.1
    have hml : (rs.map V.ref).length = rs.length := List.length_map ..
    have hk' : k < ps.length := by (first | lia | omega)
    have hnz : n ≤ 6 := by (first | lia | omega)
    rw [drop_cons hq] at etl hg
    obtain ⟨⟨d0, d1⟩, hg⟩ := hg
    dsimp only at d0 d1 hg
    rw [tail] at etl
    dsimp only at etl
    rw [show ((n : Int)).toNat = n from rfl] at d0 d1 hg etl
    refine TSs.cut1 (fun σ => ∃ T, σ.H = G1 ++ T ∧ Has σ.loc [("others", .ref lo), ("found", .ref lf), ("many", .int ((plainOf w page).length + k : Nat)), ("state", .int state), ("place", .int place), ("bias", .int b), ("turn", .int k), ("ahead", .int (cnt page o n))]) (TS.opq fun Q2 hQ2 => ?_) ?_
    · repeat' (first | (with_reducible refine TTests.one ?_) | ((with_reducible refine' TE.mapp ?k0 ?k1 ?k2 ?_ ?k4 ?k5 ?k6); (case k0 => rfl); (case k1 => rfl); (case k2 => exact ⟨_, by k_caughtN0⟩); (case k4 => intro _; rfl); (case k5 => intro _; rfl); (case k6 => rfl)) | ((with_reducible refine' TItem.listG ?k0 ?k1 ?k2 (fun _ _ => ?_) ?k4); (case k0 => k_caughtN0); (case k1 => (first | lia | omega)); (case k2 => (first | lia | omega)); (case k4 => intro _ _; rfl)) | (with_reducible refine CallB.intB ?_) | (with_reducible refine TE.neg ?_) | ((with_reducible refine isCall ?_); (refine' CallF.of (Nat.lt_succ_self _) rfl (lthr_call ?k0 ?k1 ?_); (case k0 => k_caughtN0); (case k1 => assumption))) | ((with_reducible refine isCall ?_); (refine' CallF.of (Nat.lt_succ_self _) rfl (ladapted_call ?k0 ?k1 ?_ ?_ ?_); (case k0 => k_caughtN0); (case k1 => assumption))) | k_caughtB | ((with_reducible refine' TS.asgS3 ?_ ?k1 ?k2 ?k3 ?k4 ?k5 ?k6); (case k1 => intro _; rfl); (case k2 => intro _; rfl); (case k3 => intro _; rfl); (case k4 => intro _ _; rfl); (case k5 => intro env e; cases env; dsimp only at e; subst e; rfl); (case k6 => rfl)))
      refine TE.compB (TIt.range rfl (by intro P; k_is) rfl (by decide) ?_ (by intro _ _; rfl) (by intro _; rfl) rfl) (by intro _ _; rfl) rfl rfl rfl rfl
      repeat' (first | (with_reducible refine TTests.one ?_) | ((with_reducible refine' TE.mapp ?k0 ?k1 ?k2 ?_ ?k4 ?k5 ?k6); (case k0 => rfl); (case k1 => rfl); (case k2 => exact ⟨_, by k_caughtN0⟩); (case k4 => intro _; rfl); (case k5 => intro _; rfl); (case k6 => rfl)) | ((with_reducible refine' TItem.listG ?k0 ?k1 ?k2 (fun _ _ => ?_) ?k4); (case k0 => k_caughtN0); (case k1 => (first | lia | omega)); (case k2 => (first | lia | omega)); (case k4 => intro _ _; rfl)) | (with_reducible refine CallB.intB ?_) | (with_reducible refine TE.neg ?_) | ((with_reducible refine isCall ?_); (refine' CallF.of (Nat.lt_succ_self _) rfl (lthr_call ?k0 ?k1 ?_); (case k0 => k_caughtN0); (case k1 => assumption))) | ((with_reducible refine isCall ?_); (refine' CallF.of (Nat.lt_succ_self _) rfl (ladapted_call ?k0 ?k1 ?_ ?_ ?_); (case k0 => k_caughtN0); (case k1 => assumption))) | k_caughtB | ((with_reducible refine' TS.asgS3 ?_ ?k1 ?k2 ?k3 ?k4 ?k5 ?k6); (case k1 => intro _; rfl); (case k2 => intro _; rfl); (case k3 => intro _; rfl); (case k4 => intro _ _; rfl); (case k5 => intro env e; cases env; dsimp only at e; subst e; rfl); (case k6 => rfl)))
      refine ⟨n, rfl, by (first | lia | omega), fun m σ => ∃ T, σ.H = G1 ++ .list (List.replicate (cnt page o m).toNat (V.int 1)) :: T, ⟨[], by simp [cnt]⟩, fun _ _ _ => trivial, ?_, ?_⟩
      · rintro m ⟨loc, H'⟩ hm ⟨T, eH⟩
        dsimp only at eH
        subst eH
        obtain ⟨a, ha⟩ : ∃ a, page[m]? = some a := ⟨_, List.getElem?_eq_getElem (by (first | lia | omega))⟩
        refine TAsg.forg (loc' := []) Has.nil ?_
        repeat' (first | (with_reducible refine TTests.one ?_) | ((with_reducible refine' TE.mapp ?k0 ?k1 ?k2 ?_ ?k4 ?k5 ?k6); (case k0 => rfl); (case k1 => rfl); (case k2 => exact ⟨_, by k_caughtN0⟩); (case k4 => intro _; rfl); (case k5 => intro _; rfl); (case k6 => rfl)) | ((with_reducible refine' TItem.listG ?k0 ?k1 ?k2 (fun _ _ => ?_) ?k4); (case k0 => k_caughtN0); (case k1 => (first | lia | omega)); (case k2 => (first | lia | omega)); (case k4 => intro _ _; rfl)) | (with_reducible refine CallB.intB ?_) | (with_reducible refine TE.neg ?_) | ((with_reducible refine isCall ?_); (refine' CallF.of (Nat.lt_succ_self _) rfl (lthr_call ?k0 ?k1 ?_); (case k0 => k_caughtN0); (case k1 => assumption))) | ((with_reducible refine isCall ?_); (refine' CallF.of (Nat.lt_succ_self _) rfl (ladapted_call ?k0 ?k1 ?_ ?_ ?_); (case k0 => k_caughtN0); (case k1 => assumption))) | k_caughtB | ((with_reducible refine' TS.asgS3 ?_ ?k1 ?k2 ?k3 ?k4 ?k5 ?k6); (case k1 => intro _; rfl); (case k2 => intro _; rfl); (case k3 => intro _; rfl); (case k4 => intro _ _; rfl); (case k5 => intro env e; cases env; dsimp only at e; subst e; rfl); (case k6 => rfl)))
        rename_i a' ha'
        obtain rfl : a' = a := Option.some.inj (ha'.symm.trans ha)
        refine Op2.ltP (p := (a', (m : Int))) (q := (o, (n : Int))) (get_left (get_at _ _ []) _) (get_at _ _ []) ?_
        have hplt : plt (a', (m : Int)) (o, (n : Int)) = decide (a' ≤ o) := bool_eq (by rw [plt_iff, decide_eq_true_eq]; dsimp only; (first | lia | omega))
        rw [hplt]
        have hc0 : 0 ≤ cnt page o m ∧ cnt page o m ≤ page.length := by
          unfold cnt
          have h1 := List.length_filter_le (fun x => decide (x ≤ o)) (page.take m)
          have h2 : (page.take m).length ≤ page.length := by rw [List.length_take]; (first | lia | omega)
          (first | lia | omega)
        repeat' (first | (with_reducible refine TTests.one ?_) | ((with_reducible refine' TE.mapp ?k0 ?k1 ?k2 ?_ ?k4 ?k5 ?k6); (case k0 => rfl); (case k1 => rfl); (case k2 => exact ⟨_, by k_caughtN0⟩); (case k4 => intro _; rfl); (case k5 => intro _; rfl); (case k6 => rfl)) | ((with_reducible refine' TItem.listG ?k0 ?k1 ?k2 (fun _ _ => ?_) ?k4); (case k0 => k_caughtN0); (case k1 => (first | lia | omega)); (case k2 => (first | lia | omega)); (case k4 => intro _ _; rfl)) | (with_reducible refine CallB.intB ?_) | (with_reducible refine TE.neg ?_) | ((with_reducible refine isCall ?_); (refine' CallF.of (Nat.lt_succ_self _) rfl (lthr_call ?k0 ?k1 ?_); (case k0 => k_caughtN0); (case k1 => assumption))) | ((with_reducible refine isCall ?_); (refine' CallF.of (Nat.lt_succ_self _) rfl (ladapted_call ?k0 ?k1 ?_ ?_ ?_); (case k0 => k_caughtN0); (case k1 => assumption))) | k_caughtB | ((with_reducible refine' TS.asgS3 ?_ ?k1 ?k2 ?k3 ?k4 ?k5 ?k6); (case k1 => intro _; rfl); (case k2 => intro _; rfl); (case k3 => intro _; rfl); (case k4 => intro _ _; rfl); (case k5 => intro env e; cases env; dsimp only at e; subst e; rfl); (case k6 => rfl)))
        · rename_i z
          refine ⟨_, get_left (get_left (get_at _ _ _) _) _, by rw [List.length_replicate]; (first | lia | omega), T ++ [.tuple [.int a', .int m], .tuple [.int o, .int n]], ?_⟩
          dsimp only
          rw [show G1 ++ O.list (List.replicate (cnt page o m).toNat (V.int 1)) :: T ++ [.tuple [.int a', .int m]] ++ [.tuple [.int o, .int n]] = G1 ++ O.list (List.replicate (cnt page o m).toNat (V.int 1)) :: (T ++ [.tuple [.int a', .int m], .tuple [.int o, .int n]]) by simp, set_at, cnt_le ha z, show (cnt page o m + 1).toNat = (cnt page o m).toNat + 1 by (first | lia | omega), List.replicate_succ']
        · rename_i z
          refine ⟨T ++ [.tuple [.int a', .int m], .tuple [.int o, .int n]], ?_⟩
          rw [cnt_gt ha z]
          simp
      · rintro ⟨loc, H'⟩ ⟨T, eH⟩
        dsimp only at eH
        subst eH
        repeat' (first | (with_reducible refine TTests.one ?_) | ((with_reducible refine' TE.mapp ?k0 ?k1 ?k2 ?_ ?k4 ?k5 ?k6); (case k0 => rfl); (case k1 => rfl); (case k2 => exact ⟨_, by k_caughtN0⟩); (case k4 => intro _; rfl); (case k5 => intro _; rfl); (case k6 => rfl)) | ((with_reducible refine' TItem.listG ?k0 ?k1 ?k2 (fun _ _ => ?_) ?k4); (case k0 => k_caughtN0); (case k1 => (first | lia | omega)); (case k2 => (first | lia | omega)); (case k4 => intro _ _; rfl)) | (with_reducible refine CallB.intB ?_) | (with_reducible refine TE.neg ?_) | ((with_reducible refine isCall ?_); (refine' CallF.of (Nat.lt_succ_self _) rfl (lthr_call ?k0 ?k1 ?_); (case k0 => k_caughtN0); (case k1 => assumption))) | ((with_reducible refine isCall ?_); (refine' CallF.of (Nat.lt_succ_self _) rfl (ladapted_call ?k0 ?k1 ?_ ?_ ?_); (case k0 => k_caughtN0); (case k1 => assumption))) | k_caughtB | ((with_reducible refine' TS.asgS3 ?_ ?k1 ?k2 ?k3 ?k4 ?k5 ?k6); (case k1 => intro _; rfl); (case k2 => intro _; rfl); (case k3 => intro _; rfl); (case k4 => intro _ _; rfl); (case k5 => intro env e; cases env; dsimp only at e; subst e; rfl); (case k6 => rfl)))
        refine hQ2 .next _ ⟨_, rfl, ?_⟩
        have hc0 : 0 ≤ cnt page o n := by unfold cnt; (first | lia | omega)
        rw [List.length_replicate, show (((cnt page o n).toNat : Nat) : Int) = cnt page o n by (first | lia | omega)]
        k_caughtNB
    rintro ⟨loc, G⟩ ⟨T, eH, hl⟩
    dsimp only at eH
    subst eH
    refine TSs.forg hl ?_
    have W3 := W2.app T
    clear x2 x3 xi xp xo xA xC W2 hl
    generalize G1 ++ T = G2 at *
    clear T
    obtain ⟨x2, x3, xi, xp, xo⟩ := ctx W3
    have xA := W3.2.1
    have xC := W3.2.2.1
    generalize hD : (o - state) * ((((plainOf w page).length + k : Nat) : Int) + 1) + cnt page o n - place = D at *
    refine TSs.cut1 (fun σ => σ.H = G2 ∧ Has σ.loc [("others", .ref lo), ("found", .ref lf), ("many", .int ((plainOf w page).length + k : Nat)), ("state", .int state), ("place", .int place), ("bias", .int b), ("turn", .int k), ("ahead", .int (cnt page o n)), ("delta", .int D)]) (TS.opq fun Q2 hQ2 => ?_) ?_
    · repeat' (first | (with_reducible refine TTests.one ?_) | ((with_reducible refine' TE.mapp ?k0 ?k1 ?k2 ?_ ?k4 ?k5 ?k6); (case k0 => rfl); (case k1 => rfl); (case k2 => exact ⟨_, by k_caughtN0⟩); (case k4 => intro _; rfl); (case k5 => intro _; rfl); (case k6 => rfl)) | ((with_reducible refine' TItem.listG ?k0 ?k1 ?k2 (fun _ _ => ?_) ?k4); (case k0 => k_caughtN0); (case k1 => (first | lia | omega)); (case k2 => (first | lia | omega)); (case k4 => intro _ _; rfl)) | (with_reducible refine CallB.intB ?_) | (with_reducible refine TE.neg ?_) | ((with_reducible refine isCall ?_); (refine' CallF.of (Nat.lt_succ_self _) rfl (lthr_call ?k0 ?k1 ?_); (case k0 => k_caughtN0); (case k1 => assumption))) | ((with_reducible refine isCall ?_); (refine' CallF.of (Nat.lt_succ_self _) rfl (ladapted_call ?k0 ?k1 ?_ ?_ ?_); (case k0 => k_caughtN0); (case k1 => assumption))) | k_caughtB | ((with_reducible refine' TS.asgS3 ?_ ?k1 ?k2 ?k3 ?k4 ?k5 ?k6); (case k1 => intro _; rfl); (case k2 => intro _; rfl); (case k3 => intro _; rfl); (case k4 => intro _ _; rfl); (case k5 => intro env e; cases env; dsimp only at e; subst e; rfl); (case k6 => rfl)))
      refine hQ2 .next _ ⟨rfl, ?_⟩
      rw [← hD]
      k_caughtNB
    rintro ⟨loc, G⟩ ⟨eH, hl⟩
    dsimp only at eH
    subst eH
    refine TSs.forg hl ?_
    refine TSs.cut1 (fun σ => σ.H = G ∧ Has σ.loc [("others", .ref lo), ("found", .ref lf), ("many", .int ((plainOf w page).length + k : Nat)), ("state", .int state), ("place", .int place), ("bias", .int b), ("turn", .int k), ("ahead", .int (cnt page o n)), ("delta", .int D), ("left", .int D), ("k", .int 1)]) (TS.opq fun Q2 hQ2 => ?_) ?_
    · repeat' (first | (with_reducible refine TTests.one ?_) | ((with_reducible refine' TE.mapp ?k0 ?k1 ?k2 ?_ ?k4 ?k5 ?k6); (case k0 => rfl); (case k1 => rfl); (case k2 => exact ⟨_, by k_caughtN0⟩); (case k4 => intro _; rfl); (case k5 => intro _; rfl); (case k6 => rfl)) | ((with_reducible refine' TItem.listG ?k0 ?k1 ?k2 (fun _ _ => ?_) ?k4); (case k0 => k_caughtN0); (case k1 => (first | lia | omega)); (case k2 => (first | lia | omega)); (case k4 => intro _ _; rfl)) | (with_reducible refine CallB.intB ?_) | (with_reducible refine TE.neg ?_) | ((with_reducible refine isCall ?_); (refine' CallF.of (Nat.lt_succ_self _) rfl (lthr_call ?k0 ?k1 ?_); (case k0 => k_caughtN0); (case k1 => assumption))) | ((with_reducible refine isCall ?_); (refine' CallF.of (Nat.lt_succ_self _) rfl (ladapted_call ?k0 ?k1 ?_ ?_ ?_); (case k0 => k_caughtN0); (case k1 => assumption))) | k_caughtB | ((with_reducible refine' TS.asgS3 ?_ ?k1 ?k2 ?k3 ?k4 ?k5 ?k6); (case k1 => intro _; rfl); (case k2 => intro _; rfl); (case k3 => intro _; rfl); (case k4 => intro _ _; rfl); (case k5 => intro env e; cases env; dsimp only at e; subst e; rfl); (case k6 => rfl)))
      refine hQ2 .next _ ⟨rfl, ?_⟩
      k_caughtNB
    clear hl
    rintro ⟨loc, G'⟩ ⟨eH, hl⟩
    dsimp only at eH
    subst eH
    refine TSs.forg hl ?_
    clear hl x2 x3 xi xp xo xA xC
    refine TSs.cut1 (WrE H H4 lf lo w page fs n k o state place b D) (TS.opq fun Q2 hQ2 => ?_) ?_
    · refine TS.while_ (WrW H H4 lf lo w page fs n k o state place b D) D.toNat ⟨fs, D, 1, W3, by k_caughtNB, d0, rfl, rfl⟩ ?_
      clear W3
      rintro n' ⟨loc, G⟩ hI
      refine TB.opq fun Q3 R3 hQ3 hR3 => ?_
      refine opaq fun P kP => ?_
      obtain ⟨fs', left, kk, W, hl, l0, rfl, en⟩ := hI
      dsimp only at W
      refine kP (TB.forget hl ?_)
      clear kP P
      obtain ⟨x2, x3, xi, xp, xo⟩ := ctx W
      have xf := W.2.2.2.1
      have tb := thr_bounds ok kk b
      repeat' (first | (with_reducible refine TTests.one ?_) | ((with_reducible refine' TE.mapp ?k0 ?k1 ?k2 ?_ ?k4 ?k5 ?k6); (case k0 => rfl); (case k1 => rfl); (case k2 => exact ⟨_, by k_caughtN0⟩); (case k4 => intro _; rfl); (case k5 => intro _; rfl); (case k6 => rfl)) | ((with_reducible refine' TItem.listG ?k0 ?k1 ?k2 (fun _ _ => ?_) ?k4); (case k0 => k_caughtN0); (case k1 => (first | lia | omega)); (case k2 => (first | lia | omega)); (case k4 => intro _ _; rfl)) | (with_reducible refine CallB.intB ?_) | (with_reducible refine TE.neg ?_) | ((with_reducible refine isCall ?_); (refine' CallF.of (Nat.lt_succ_self _) rfl (lthr_call ?k0 ?k1 ?_); (case k0 => k_caughtN0); (case k1 => assumption))) | ((with_reducible refine isCall ?_); (refine' CallF.of (Nat.lt_succ_self _) rfl (ladapted_call ?k0 ?k1 ?_ ?_ ?_); (case k0 => k_caughtN0); (case k1 => assumption))) | k_caughtB | ((with_reducible refine' TS.asgS3 ?_ ?k1 ?k2 ?k3 ?k4 ?k5 ?k6); (case k1 => intro _; rfl); (case k2 => intro _; rfl); (case k3 => intro _; rfl); (case k4 => intro _ _; rfl); (case k5 => intro env e; cases env; dsimp only at e; subst e; rfl); (case k6 => rfl)))
      · rename_i z
        obtain ⟨a1, a2⟩ := num_next ok (show ¬ left < thr w kk b by (first | lia | omega))
        rw [nums_next ok l0 (show ¬ left < thr w kk b by (first | lia | omega))] at en
        have hm0 := Int.emod_nonneg (left - thr w kk b) (show w.base - thr w kk b ≠ 0 by (first | lia | omega))
        have hm1 := Int.emod_lt_of_pos (left - thr w kk b) (show 0 < w.base - thr w kk b by (first | lia | omega))
        generalize hv : thr w kk b + (left - thr w kk b) % (w.base - thr w kk b) = v at *
        have hfl : fs'.length ≤ fs.length + 41 := by
          have h1 := congrArg List.length en
          rw [List.length_append, List.length_append] at h1
          have h2 := nums_len ok (b := b) (k := 1) d0 d1
          (first | lia | omega)
        have hv0 : 0 ≤ v := by (first | lia | omega)
        refine ⟨_, xf, by rw [List.length_map]; (first | lia | omega), ?_⟩
        have W1 : WF H H4 lf (some (.int n)) (some (.int o)) (fs' ++ [v]) (G.set lf (O.list (List.map V.int fs' ++ [V.int v]))) := by
          have := W.putf (by (first | lia | omega)) (fs' ++ [v])
          rw [List.map_append] at this
          exact this
        dsimp only
        refine TSs.forg (loc' := [("others", .ref lo), ("found", .ref lf), ("many", .int ((plainOf w page).length + k : Nat)), ("state", .int state), ("place", .int place), ("bias", .int b), ("turn", .int k), ("ahead", .int (cnt page o n)), ("delta", .int D), ("left", .int left), ("k", .int kk), ("least", .int (thr w kk b))]) (by k_caughtNB) ?_
        generalize G.set lf (O.list (List.map V.int fs' ++ [V.int v])) = G1 at *
        have xl : G1[lf]? = some (.list (fs'.map V.int ++ [V.int v])) := by
          have := W1.2.2.2.1
          rw [List.map_append] at this
          exact this
        obtain ⟨y2, y3, yi, yp, yo⟩ := ctx W1
        refine TSs.cut1 (fun σ => WF H H4 lf (some (.int n)) (some (.int o)) (fs' ++ [dg v]) σ.H ∧ Has σ.loc [("others", .ref lo), ("found", .ref lf), ("many", .int ((plainOf w page).length + k : Nat)), ("state", .int state), ("place", .int place), ("bias", .int b), ("turn", .int k), ("ahead", .int (cnt page o n)), ("delta", .int D), ("left", .int left), ("k", .int kk), ("least", .int (thr w kk b))]) (TS.opq fun Q4 hQ4 => ?_) ?_
        · repeat' (first | (with_reducible refine TTests.one ?_) | ((with_reducible refine' TE.mapp ?k0 ?k1 ?k2 ?_ ?k4 ?k5 ?k6); (case k0 => rfl); (case k1 => rfl); (case k2 => exact ⟨_, by k_caughtN0⟩); (case k4 => intro _; rfl); (case k5 => intro _; rfl); (case k6 => rfl)) | ((with_reducible refine' TItem.listG ?k0 ?k1 ?k2 (fun _ _ => ?_) ?k4); (case k0 => k_caughtN0); (case k1 => (first | lia | omega)); (case k2 => (first | lia | omega)); (case k4 => intro _ _; rfl)) | (with_reducible refine CallB.intB ?_) | (with_reducible refine TE.neg ?_) | ((with_reducible refine isCall ?_); (refine' CallF.of (Nat.lt_succ_self _) rfl (lthr_call ?k0 ?k1 ?_); (case k0 => k_caughtN0); (case k1 => assumption))) | ((with_reducible refine isCall ?_); (refine' CallF.of (Nat.lt_succ_self _) rfl (ladapted_call ?k0 ?k1 ?_ ?_ ?_); (case k0 => k_caughtN0); (case k1 => assumption))) | k_caughtB | ((with_reducible refine' TS.asgS3 ?_ ?k1 ?k2 ?k3 ?k4 ?k5 ?k6); (case k1 => intro _; rfl); (case k2 => intro _; rfl); (case k3 => intro _; rfl); (case k4 => intro _ _; rfl); (case k5 => intro env e; cases env; dsimp only at e; subst e; rfl); (case k6 => rfl)))
          refine ⟨_, rfl, TItem.last xl ?_ (by intro _ _; rfl)⟩
          repeat' (first | (with_reducible refine TTests.one ?_) | ((with_reducible refine' TE.mapp ?k0 ?k1 ?k2 ?_ ?k4 ?k5 ?k6); (case k0 => rfl); (case k1 => rfl); (case k2 => exact ⟨_, by k_caughtN0⟩); (case k4 => intro _; rfl); (case k5 => intro _; rfl); (case k6 => rfl)) | ((with_reducible refine' TItem.listG ?k0 ?k1 ?k2 (fun _ _ => ?_) ?k4); (case k0 => k_caughtN0); (case k1 => (first | lia | omega)); (case k2 => (first | lia | omega)); (case k4 => intro _ _; rfl)) | (with_reducible refine CallB.intB ?_) | (with_reducible refine TE.neg ?_) | ((with_reducible refine isCall ?_); (refine' CallF.of (Nat.lt_succ_self _) rfl (lthr_call ?k0 ?k1 ?_); (case k0 => k_caughtN0); (case k1 => assumption))) | ((with_reducible refine isCall ?_); (refine' CallF.of (Nat.lt_succ_self _) rfl (ladapted_call ?k0 ?k1 ?_ ?_ ?_); (case k0 => k_caughtN0); (case k1 => assumption))) | k_caughtB | ((with_reducible refine' TS.asgS3 ?_ ?k1 ?k2 ?k3 ?k4 ?k5 ?k6); (case k1 => intro _; rfl); (case k2 => intro _; rfl); (case k3 => intro _; rfl); (case k4 => intro _ _; rfl); (case k5 => intro env e; cases env; dsimp only at e; subst e; rfl); (case k6 => rfl)))
          · refine ⟨_, rfl, TItem.last xl ?_ (by intro _ _; rfl)⟩
            repeat' (first | (with_reducible refine TTests.one ?_) | ((with_reducible refine' TE.mapp ?k0 ?k1 ?k2 ?_ ?k4 ?k5 ?k6); (case k0 => rfl); (case k1 => rfl); (case k2 => exact ⟨_, by k_caughtN0⟩); (case k4 => intro _; rfl); (case k5 => intro _; rfl); (case k6 => rfl)) | ((with_reducible refine' TItem.listG ?k0 ?k1 ?k2 (fun _ _ => ?_) ?k4); (case k0 => k_caughtN0); (case k1 => (first | lia | omega)); (case k2 => (first | lia | omega)); (case k4 => intro _ _; rfl)) | (with_reducible refine CallB.intB ?_) | (with_reducible refine TE.neg ?_) | ((with_reducible refine isCall ?_); (refine' CallF.of (Nat.lt_succ_self _) rfl (lthr_call ?k0 ?k1 ?_); (case k0 => k_caughtN0); (case k1 => assumption))) | ((with_reducible refine isCall ?_); (refine' CallF.of (Nat.lt_succ_self _) rfl (ladapted_call ?k0 ?k1 ?_ ?_ ?_); (case k0 => k_caughtN0); (case k1 => assumption))) | k_caughtB | ((with_reducible refine' TS.asgS3 ?_ ?k1 ?k2 ?k3 ?k4 ?k5 ?k6); (case k1 => intro _; rfl); (case k2 => intro _; rfl); (case k3 => intro _; rfl); (case k4 => intro _ _; rfl); (case k5 => intro env e; cases env; dsimp only at e; subst e; rfl); (case k6 => rfl)))
            refine TAsg.sub ?_
            repeat' (first | (with_reducible refine TTests.one ?_) | ((with_reducible refine' TE.mapp ?k0 ?k1 ?k2 ?_ ?k4 ?k5 ?k6); (case k0 => rfl); (case k1 => rfl); (case k2 => exact ⟨_, by k_caughtN0⟩); (case k4 => intro _; rfl); (case k5 => intro _; rfl); (case k6 => rfl)) | ((with_reducible refine' TItem.listG ?k0 ?k1 ?k2 (fun _ _ => ?_) ?k4); (case k0 => k_caughtN0); (case k1 => (first | lia | omega)); (case k2 => (first | lia | omega)); (case k4 => intro _ _; rfl)) | (with_reducible refine CallB.intB ?_) | (with_reducible refine TE.neg ?_) | ((with_reducible refine isCall ?_); (refine' CallF.of (Nat.lt_succ_self _) rfl (lthr_call ?k0 ?k1 ?_); (case k0 => k_caughtN0); (case k1 => assumption))) | ((with_reducible refine isCall ?_); (refine' CallF.of (Nat.lt_succ_self _) rfl (ladapted_call ?k0 ?k1 ?_ ?_ ?_); (case k0 => k_caughtN0); (case k1 => assumption))) | k_caughtB | ((with_reducible refine' TS.asgS3 ?_ ?k1 ?k2 ?k3 ?k4 ?k5 ?k6); (case k1 => intro _; rfl); (case k2 => intro _; rfl); (case k3 => intro _; rfl); (case k4 => intro _ _; rfl); (case k5 => intro env e; cases env; dsimp only at e; subst e; rfl); (case k6 => rfl)))
            refine ⟨_, rfl, TSet.last xl (by simp) ?_⟩
            refine hQ4 .next _ ⟨?_, by k_caughtNB⟩
            dsimp only
            rw [set_last, show fs'.map V.int ++ [V.int (97 + v)] = (fs' ++ [dg v]).map V.int by rw [List.map_append]; unfold dg; rw [if_neg (by (first | lia | omega))]; rfl]
            exact W1.putf (by (first | lia | omega)) _
          · refine ⟨_, rfl, TItem.last xl ?_ (by intro _ _; rfl)⟩
            repeat' (first | (with_reducible refine TTests.one ?_) | ((with_reducible refine' TE.mapp ?k0 ?k1 ?k2 ?_ ?k4 ?k5 ?k6); (case k0 => rfl); (case k1 => rfl); (case k2 => exact ⟨_, by k_caughtN0⟩); (case k4 => intro _; rfl); (case k5 => intro _; rfl); (case k6 => rfl)) | ((with_reducible refine' TItem.listG ?k0 ?k1 ?k2 (fun _ _ => ?_) ?k4); (case k0 => k_caughtN0); (case k1 => (first | lia | omega)); (case k2 => (first | lia | omega)); (case k4 => intro _ _; rfl)) | (with_reducible refine CallB.intB ?_) | (with_reducible refine TE.neg ?_) | ((with_reducible refine isCall ?_); (refine' CallF.of (Nat.lt_succ_self _) rfl (lthr_call ?k0 ?k1 ?_); (case k0 => k_caughtN0); (case k1 => assumption))) | ((with_reducible refine isCall ?_); (refine' CallF.of (Nat.lt_succ_self _) rfl (ladapted_call ?k0 ?k1 ?_ ?_ ?_); (case k0 => k_caughtN0); (case k1 => assumption))) | k_caughtB | ((with_reducible refine' TS.asgS3 ?_ ?k1 ?k2 ?k3 ?k4 ?k5 ?k6); (case k1 => intro _; rfl); (case k2 => intro _; rfl); (case k3 => intro _; rfl); (case k4 => intro _ _; rfl); (case k5 => intro env e; cases env; dsimp only at e; subst e; rfl); (case k6 => rfl)))
            refine TAsg.sub ?_
            repeat' (first | (with_reducible refine TTests.one ?_) | ((with_reducible refine' TE.mapp ?k0 ?k1 ?k2 ?_ ?k4 ?k5 ?k6); (case k0 => rfl); (case k1 => rfl); (case k2 => exact ⟨_, by k_caughtN0⟩); (case k4 => intro _; rfl); (case k5 => intro _; rfl); (case k6 => rfl)) | ((with_reducible refine' TItem.listG ?k0 ?k1 ?k2 (fun _ _ => ?_) ?k4); (case k0 => k_caughtN0); (case k1 => (first | lia | omega)); (case k2 => (first | lia | omega)); (case k4 => intro _ _; rfl)) | (with_reducible refine CallB.intB ?_) | (with_reducible refine TE.neg ?_) | ((with_reducible refine isCall ?_); (refine' CallF.of (Nat.lt_succ_self _) rfl (lthr_call ?k0 ?k1 ?_); (case k0 => k_caughtN0); (case k1 => assumption))) | ((with_reducible refine isCall ?_); (refine' CallF.of (Nat.lt_succ_self _) rfl (ladapted_call ?k0 ?k1 ?_ ?_ ?_); (case k0 => k_caughtN0); (case k1 => assumption))) | k_caughtB | ((with_reducible refine' TS.asgS3 ?_ ?k1 ?k2 ?k3 ?k4 ?k5 ?k6); (case k1 => intro _; rfl); (case k2 => intro _; rfl); (case k3 => intro _; rfl); (case k4 => intro _ _; rfl); (case k5 => intro env e; cases env; dsimp only at e; subst e; rfl); (case k6 => rfl)))
            refine ⟨_, rfl, TSet.last xl (by simp) ?_⟩
            refine hQ4 .next _ ⟨?_, by k_caughtNB⟩
            dsimp only
            rw [set_last, show fs'.map V.int ++ [V.int (22 + v)] = (fs' ++ [dg v]).map V.int by rw [List.map_append]; unfold dg; rw [if_pos (by (first | lia | omega)), show 48 + v - 26 = 22 + v by (first | lia | omega)]; rfl]
            exact W1.putf (by (first | lia | omega)) _
        clear hl
        rintro ⟨loc, G2⟩ ⟨W2, hl⟩
        dsimp only at W2
        refine TSs.forg hl ?_
        clear x2 x3 xi xp xo xf xl y2 y3 yi yp yo W W1
        obtain ⟨x2, x3, xi, xp, xo⟩ := ctx W2
        repeat' (first | (with_reducible refine TTests.one ?_) | ((with_reducible refine' TE.mapp ?k0 ?k1 ?k2 ?_ ?k4 ?k5 ?k6); (case k0 => rfl); (case k1 => rfl); (case k2 => exact ⟨_, by k_caughtN0⟩); (case k4 => intro _; rfl); (case k5 => intro _; rfl); (case k6 => rfl)) | ((with_reducible refine' TItem.listG ?k0 ?k1 ?k2 (fun _ _ => ?_) ?k4); (case k0 => k_caughtN0); (case k1 => (first | lia | omega)); (case k2 => (first | lia | omega)); (case k4 => intro _ _; rfl)) | (with_reducible refine CallB.intB ?_) | (with_reducible refine TE.neg ?_) | ((with_reducible refine isCall ?_); (refine' CallF.of (Nat.lt_succ_self _) rfl (lthr_call ?k0 ?k1 ?_); (case k0 => k_caughtN0); (case k1 => assumption))) | ((with_reducible refine isCall ?_); (refine' CallF.of (Nat.lt_succ_self _) rfl (ladapted_call ?k0 ?k1 ?_ ?_ ?_); (case k0 => k_caughtN0); (case k1 => assumption))) | k_caughtB | ((with_reducible refine' TS.asgS3 ?_ ?k1 ?k2 ?k3 ?k4 ?k5 ?k6); (case k1 => intro _; rfl); (case k2 => intro _; rfl); (case k3 => intro _; rfl); (case k4 => intro _ _; rfl); (case k5 => intro env e; cases env; dsimp only at e; subst e; rfl); (case k6 => rfl)))
        refine hQ3 .next _ ⟨_, ?_, fs' ++ [dg v], (left - thr w kk b) / (w.base - thr w kk b), kk + 1, W2, by k_caughtNB, a1, rfl, by rw [List.append_assoc, ← en]; rfl⟩
        (first | lia | omega)
      · rename_i z
        exact hR3 _ (hQ2 .next _ ⟨fs', left, kk, W, by k_caughtNB, l0, by (first | lia | omega), en⟩)
    rintro ⟨loc, G⟩ hI
    refine opaq fun P kP => ?_
    obtain ⟨fs', left, kk, W, hl, l0, lt, en⟩ := hI
    dsimp only at W
    rw [nums_last ok lt] at en
    have tb := thr_bounds ok kk b
    refine kP (TSs.forg hl ?_)
    clear kP P
    obtain ⟨x2, x3, xi, xp, xo⟩ := ctx W
    have xA := W.2.1
    have xC := W.2.2.1
    have xf := W.2.2.2.1
    have hnl := nums_len ok (b := b) (k := 1) d0 d1
    have hfl : fs'.length ≤ fs.length + 41 := by
      have h1 := congrArg List.length en
      rw [List.length_append, List.length_append] at h1
      (first | lia | omega)
    refine TSs.cut1 (fun σ => WF H H4 lf (some (.int n)) (some (.int o)) (fs ++ nums w b 1 D) σ.H ∧ Has σ.loc [("others", .ref lo), ("found", .ref lf), ("many", .int ((plainOf w page).length + k : Nat)), ("state", .int state), ("place", .int place), ("bias", .int b), ("turn", .int k), ("ahead", .int (cnt page o n)), ("delta", .int D)]) (TS.opq fun Q2 hQ2 => ?_) ?_
    · repeat' (first | (with_reducible refine TTests.one ?_) | ((with_reducible refine' TE.mapp ?k0 ?k1 ?k2 ?_ ?k4 ?k5 ?k6); (case k0 => rfl); (case k1 => rfl); (case k2 => exact ⟨_, by k_caughtN0⟩); (case k4 => intro _; rfl); (case k5 => intro _; rfl); (case k6 => rfl)) | ((with_reducible refine' TItem.listG ?k0 ?k1 ?k2 (fun _ _ => ?_) ?k4); (case k0 => k_caughtN0); (case k1 => (first | lia | omega)); (case k2 => (first | lia | omega)); (case k4 => intro _ _; rfl)) | (with_reducible refine CallB.intB ?_) | (with_reducible refine TE.neg ?_) | ((with_reducible refine isCall ?_); (refine' CallF.of (Nat.lt_succ_self _) rfl (lthr_call ?k0 ?k1 ?_); (case k0 => k_caughtN0); (case k1 => assumption))) | ((with_reducible refine isCall ?_); (refine' CallF.of (Nat.lt_succ_self _) rfl (ladapted_call ?k0 ?k1 ?_ ?_ ?_); (case k0 => k_caughtN0); (case k1 => assumption))) | k_caughtB | ((with_reducible refine' TS.asgS3 ?_ ?k1 ?k2 ?k3 ?k4 ?k5 ?k6); (case k1 => intro _; rfl); (case k2 => intro _; rfl); (case k3 => intro _; rfl); (case k4 => intro _ _; rfl); (case k5 => intro env e; cases env; dsimp only at e; subst e; rfl); (case k6 => rfl)))
      · refine ⟨_, xf, by rw [List.length_map]; (first | lia | omega), ?_⟩
        refine hQ2 .next _ ⟨?_, by k_caughtNB⟩
        dsimp only
        rw [← en, show fs'.map V.int ++ [V.int (97 + left)] = (fs' ++ [dg left]).map V.int by rw [List.map_append]; unfold dg; rw [if_neg (by (first | lia | omega))]; rfl]
        exact W.putf (by (first | lia | omega)) _
      · refine ⟨_, xf, by rw [List.length_map]; (first | lia | omega), ?_⟩
        refine hQ2 .next _ ⟨?_, by k_caughtNB⟩
        dsimp only
        rw [← en, show fs'.map V.int ++ [V.int (22 + left)] = (fs' ++ [dg left]).map V.int by rw [List.map_append]; unfold dg; rw [if_pos (by (first | lia | omega)), show 48 + left - 26 = 22 + left by (first | lia | omega)]; rfl]
        exact W.putf (by (first | lia | omega)) _
    clear hl x2 x3 xi xp xo xA xC xf W
    rintro ⟨loc, G2⟩ ⟨W, hl⟩
    dsimp only at W
    refine TSs.forg hl ?_
    obtain ⟨x2, x3, xi, xp, xo⟩ := ctx W
    have xA := W.2.1
    have xC := W.2.2.1
    have xf := W.2.2.2.1
    repeat' (first | (with_reducible refine TTests.one ?_) | ((with_reducible refine' TE.mapp ?k0 ?k1 ?k2 ?_ ?k4 ?k5 ?k6); (case k0 => rfl); (case k1 => rfl); (case k2 => exact ⟨_, by k_caughtN0⟩); (case k4 => intro _; rfl); (case k5 => intro _; rfl); (case k6 => rfl)) | ((with_reducible refine' TItem.listG ?k0 ?k1 ?k2 (fun _ _ => ?_) ?k4); (case k0 => k_caughtN0); (case k1 => (first | lia | omega)); (case k2 => (first | lia | omega)); (case k4 => intro _ _; rfl)) | (with_reducible refine CallB.intB ?_) | (with_reducible refine TE.neg ?_) | ((with_reducible refine isCall ?_); (refine' CallF.of (Nat.lt_succ_self _) rfl (lthr_call ?k0 ?k1 ?_); (case k0 => k_caughtN0); (case k1 => assumption))) | ((with_reducible refine isCall ?_); (refine' CallF.of (Nat.lt_succ_self _) rfl (ladapted_call ?k0 ?k1 ?_ ?_ ?_); (case k0 => k_caughtN0); (case k1 => assumption))) | k_caughtB | ((with_reducible refine' TS.asgS3 ?_ ?k1 ?k2 ?k3 ?k4 ?k5 ?k6); (case k1 => intro _; rfl); (case k2 => intro _; rfl); (case k3 => intro _; rfl); (case k4 => intro _ _; rfl); (case k5 => intro env e; cases env; dsimp only at e; subst e; rfl); (case k6 => rfl)))
    · exact d0
    · (first | lia | omega)
    have hkd : decide ((k : Int) = 0) = decide (k = 0) := by
      by_cases z : k = 0 <;> simp [z]
    rw [hkd]
    refine hQ' .next _ ⟨fs ++ nums w b 1 D, _, _, o, cnt page o n + 1, ad w D (((plainOf w page).length + k : Nat) + 1) (decide (k = 0)), W, ?_, ?_, ?_, ?_⟩
    · rw [show ((plainOf w page).length + (k + 1) : Nat) = (plainOf w page).length + k + 1 by (first | lia | omega), Int.natCast_add ((plainOf w page).length + k) 1]
      k_caughtNB
    · rw [List.length_append]; (first | lia | omega)
    · rw [List.append_assoc, show (((plainOf w page).length + (k + 1) : Nat) : Int) = ((plainOf w page).length + k : Nat) + 1 by (first | lia | omega), show decide (k + 1 = 0) = false from rfl]
      exact etl
    · rw [show (((plainOf w page).length + (k + 1) : Nat) : Int) = ((plainOf w page).length + k : Nat) + 1 by (first | lia | omega)]
      exact hg
  · rintro ⟨loc, G⟩ hI
    refine opaq fun P kP => ?_
    obtain ⟨fs, u, v, state, place, b, W, hl, hfs, etl, hg⟩ := hI
    refine kP (TSs.forg hl ?_)
    clear kP P
    have hml : (rs.map V.ref).length = rs.length := List.length_map ..
    rw [List.drop_eq_nil_iff.mpr (by (first | lia | omega))] at etl
    rw [tail, List.append_nil] at etl
    repeat' (first | (with_reducible refine TTests.one ?_) | ((with_reducible refine' TE.mapp ?k0 ?k1 ?k2 ?_ ?k4 ?k5 ?k6); (case k0 => rfl); (case k1 => rfl); (case k2 => exact ⟨_, by k_caughtN0⟩); (case k4 => intro _; rfl); (case k5 => intro _; rfl); (case k6 => rfl)) | ((with_reducible refine' TItem.listG ?k0 ?k1 ?k2 (fun _ _ => ?_) ?k4); (case k0 => k_caughtN0); (case k1 => (first | lia | omega)); (case k2 => (first | lia | omega)); (case k4 => intro _ _; rfl)) | (with_reducible refine CallB.intB ?_) | (with_reducible refine TE.neg ?_) | ((with_reducible refine isCall ?_); (refine' CallF.of (Nat.lt_succ_self _) rfl (lthr_call ?k0 ?k1 ?_); (case k0 => k_caughtN0); (case k1 => assumption))) | ((with_reducible refine isCall ?_); (refine' CallF.of (Nat.lt_succ_self _) rfl (ladapted_call ?k0 ?k1 ?_ ?_ ?_); (case k0 => k_caughtN0); (case k1 => assumption))) | k_caughtB | ((with_reducible refine' TS.asgS3 ?_ ?k1 ?k2 ?k3 ?k4 ?k5 ?k6); (case k1 => intro _; rfl); (case k2 => intro _; rfl); (case k3 => intro _; rfl); (case k4 => intro _ _; rfl); (case k5 => intro env e; cases env; dsimp only at e; subst e; rfl); (case k6 => rfl)))
    refine CallB.bytesL rfl W.2.2.2.1 (by rw [etl]; exact wr_in ok hok g) ?_
    rw [etl]
    repeat' (first | (with_reducible refine TTests.one ?_) | ((with_reducible refine' TE.mapp ?k0 ?k1 ?k2 ?_ ?k4 ?k5 ?k6); (case k0 => rfl); (case k1 => rfl); (case k2 => exact ⟨_, by k_caughtN0⟩); (case k4 => intro _; rfl); (case k5 => intro _; rfl); (case k6 => rfl)) | ((with_reducible refine' TItem.listG ?k0 ?k1 ?k2 (fun _ _ => ?_) ?k4); (case k0 => k_caughtN0); (case k1 => (first | lia | omega)); (case k2 => (first | lia | omega)); (case k4 => intro _ _; rfl)) | (with_reducible refine CallB.intB ?_) | (with_reducible refine TE.neg ?_) | ((with_reducible refine isCall ?_); (refine' CallF.of (Nat.lt_succ_self _) rfl (lthr_call ?k0 ?k1 ?_); (case k0 => k_caughtN0); (case k1 => assumption))) | ((with_reducible refine isCall ?_); (refine' CallF.of (Nat.lt_succ_self _) rfl (ladapted_call ?k0 ?k1 ?_ ?_ ?_); (case k0 => k_caughtN0); (case k1 => assumption))) | k_caughtB | ((with_reducible refine' TS.asgS3 ?_ ?k1 ?k2 ?k3 ?k4 ?k5 ?k6); (case k1 => intro _; rfl); (case k2 => intro _; rfl); (case k3 => intro _; rfl); (case k4 => intro _ _; rfl); (case k5 => intro env e; cases env; dsimp only at e; subst e; rfl); (case k6 => rfl)))
    obtain ⟨T, e⟩ := W.1
    dsimp only at e
    rw [e]
    exact h T
end
section
theorem lookup_zip {y : PySem.Str} {i : Nat} {n : Nat} : ∀ {cn : List PySem.Str} {cs : List Addr} {n : Nat}, cn.length = cs.length → (cn.zipIdx n).lookup y = some i → ∃ c, (cn.zip cs).lookup y = some c ∧ n ≤ i ∧ cs[i - n]? = some c
  | [], _, _, _, e => by cases e
  | a :: cn, [], _, h, _ => by cases h
  | a :: cn, c :: cs, n, h, e => by
    simp only [List.zipIdx_cons, List.lookup_cons, List.zip_cons_cons] at e ⊢
    cases z : y == a with
    | true =>
      rw [z] at e
      cases e
      exact ⟨c, rfl, Nat.le_refl _, by simp⟩
    | false =>
      rw [z] at e
      obtain ⟨c', h1, h2, h3⟩ := lookup_zip (cn := cn) (cs := cs) (n := n + 1) (by simpa using h) e
      refine ⟨c', h1, by (first | lia | omega), ?_⟩
      rw [show i - n = (i - (n + 1)) + 1 by (first | lia | omega), List.getElem?_cons_succ]
      exact h3
/-- the start of a walk: the frame of the law, as the head of the kit leaves it -/
theorem start {w : World} {p : Program} {loose : List PySem.Str} {mean : ExcName → Option Value} {mg mb m : PySem.Str → Option Value} {s₁ : Shared} {name : PySem.Str} {scope : Scope} {fa : Addr} {cd : Value} {h₁ : Heap} {tk : Nat} {cn : List PySem.Str} {cs : List Addr} {objs : List Obj} {loc : List (PySem.Str × V)} {body : List Stmt} {Q : Fl → St → Prop} {Qc : Flow → Shared → Prop} {Ec : Value → Shared → Prop}
    (KX : (hd.heap_39 w.params).In s₁.heap) (T : Top p loose mean mg mb s₁.heap) (hk : scope.kind = .function) (F : Fr s₁.heap s₁.heap.objs.size h₁ m)
    (hloc : ∀ x V, loc.lookup x = some V → ∃ v, m x = some v ∧ Rv s₁.heap [] V v)
    (hcs : cellsFrom (s₁.heap.objs.size + 1) scope.names [] = cn.zip cs) (hlen : cn.length = cs.length) (hnd : cs.Nodup)
    (N : News s₁.heap s₁.heap.objs.size h₁ (cs.zip objs)) (hob : objs.length = cs.length) (hobj : ∀ o ∈ objs, ∃ u, o.data = .cell u)
    (h : TSs ⟨scope, cn.zipIdx 0, 12, false, true⟩ (fun _ _ => False) ⟨loc, cn.map fun _ => .cell none⟩ body Q)
    (hp : PassesOwn (model PG w) (callerA.deeper (envOfC name scope s₁.heap.objs.size fa cd)) (envOfC name scope s₁.heap.objs.size fa cd) Ec)
    (hq : ∀ fl fl' σ' f ρ' h' t', Q fl σ' → f.base = s₁.heap → Rel f ρ' σ' h' → Rf s₁.heap ρ' fl fl' → Qc fl' { s₁ with heap := h', toks := t' }) :
    wpAny (model PG w) (callerA.deeper (envOfC name scope s₁.heap.objs.size fa cd)) (execs body (envOfC name scope s₁.heap.objs.size fa cd)) Qc Ec { s₁ with heap := h₁, toks := tk } := by
  let env := envOfC name scope s₁.heap.objs.size fa cd
  let f : Fx := { x := ⟨scope, cn.zipIdx 0, 12, false, true⟩, w := w, mg := mg, mb := mb, mean := mean, p := p, loose := loose, s₀ := s₁, A := callerA.deeper env, base := s₁.heap, ev := env, fenv := env, outer := [], L := s₁.heap.objs.size, os := [], kp := [] }
  have ok : f.Ok := ⟨KX, T, hk, rfl, rfl, rfl, rfl, rfl, rfl, fun _ => rfl, rfl, fun e he => by
      rw [List.mem_singleton] at he
      subst he
      exact ⟨by show scope.kind ≠ _; rw [hk]; decide, _, rfl, .inl rfl⟩, fun _ => ⟨rfl, rfl⟩, by show 1 + claimMargin + 1 + 12 < recursionLimit; decide +kernel, by show 4 + 3 + 16 * 12 + 64 < cLine; decide +kernel⟩
  have hol : ∀ {cs : List Addr} {cn : List PySem.Str} {objs : List Obj}, cn.length = cs.length → objs.length = cs.length → (∀ o ∈ objs, ∃ u, o.data = .cell u) → News s₁.heap s₁.heap.objs.size h₁ (cs.zip objs) → All2 (Ro w s₁.heap cs) (cn.map fun _ => O.cell none) objs := fun {cs cn objs} h1 h2 h3 h4 => by
    have : ∀ o ∈ objs, o.isFreed = false := fun o ho => by
      obtain ⟨i, hi⟩ := List.mem_iff_getElem?.mp ho
      have hl : i < cs.length := by rw [← h2]; exact (List.getElem?_eq_some_iff.mp hi).1
      exact (Heap.get?_some_iff.mp (h4 _ (zip_mem (List.getElem?_eq_getElem hl) hi)).1).2
    have h5 : objs.length = cn.length := h2.trans h1.symm
    generalize cs = ds
    clear h1 h2 h4
    induction objs generalizing cn with
    | nil => cases cn with | nil => exact .nil | cons a b => cases h5
    | cons o os ih => cases cn with
      | nil => cases h5
      | cons a b =>
        refine .cons ?_ (ih (fun o ho => h3 o (List.mem_cons_of_mem _ ho)) (fun o ho => this o (List.mem_cons_of_mem _ ho)) (by simpa using h5))
        obtain ⟨u, hu⟩ := h3 o (List.mem_cons_self ..)
        exact ⟨u, hu, this o (List.mem_cons_self ..), trivial⟩
  have W : RelW f cs ⟨loc, cn.map fun _ => .cell none⟩ h₁ m objs [] := by
    refine ⟨ok, F, fun x V e => ?_, ?_, .nil, hol hlen hob hobj N, hob.symm, hnd, fun x i e => ?_⟩
    · obtain ⟨v, hv, r⟩ := hloc x V e
      exact ⟨v, hv, r.mono (List.nil_prefix)⟩
    · exact N
    · obtain ⟨c, h1, _, h2⟩ := lookup_zip (n := 0) hlen e
      refine ⟨c, ?_, h2⟩
      show (cellsFrom (s₁.heap.objs.size + 1) scope.names []).lookup x = some c
      rw [hcs]; exact h1
  exact h f cs rfl h₁ tk ⟨_, _, _, W⟩ Qc Ec (fun fl fl' σ' ρ' h' t' q _ R r => hq fl fl' σ' f ρ' h' t' q rfl R r) ⟨hp, fun j σ' ρ' h' t' e k => k.elim⟩
end
section
theorem IsCut.exist (xs : List Int) : ∃ c, IsCut xs c := by
  have key : ∀ n : Nat, ∃ c : Nat, (∀ k, c < k → k < n → xs[k]? ≠ some 45) ∧ (0 < c → xs[c]? = some 45) := by
    intro n
    induction n with
    | zero => exact ⟨0, fun k _ h => absurd h (Nat.not_lt_zero k), fun h => absurd h (Nat.lt_irrefl 0)⟩
    | succ n ih =>
      by_cases z : xs[n]? = some 45
      · exact ⟨n, fun k h1 h2 => by (first | lia | omega), fun _ => z⟩
      · obtain ⟨c, h1, h2⟩ := ih
        refine ⟨c, fun k a b => ?_, h2⟩
        by_cases q : k = n
        · rw [q]; exact z
        · exact h1 k a (by (first | lia | omega))
  obtain ⟨c, h1, h2⟩ := key xs.length
  refine ⟨c, fun k a => ?_, h2⟩
  by_cases q : k < xs.length
  · exact h1 k a q
  · rw [List.getElem?_eq_none (by (first | lia | omega))]; simp
/-- the deck lies at i and l, and at the places of fs lies what fs says -/
noncomputable def LS (i l : Nat) (fs : List (Nat × O)) (G : List O) : Prop := Deck G i l ∧ ∀ p ∈ fs, p.1 ≠ i ∧ p.1 ≠ l ∧ G[p.1]? = some p.2
theorem Deck.app {G : List O} {i l : Nat} (D : Deck G i l) (T : List O) : Deck (G ++ T) i l := by
  obtain ⟨h, xs, m, h1, h2⟩ := D
  exact ⟨h, xs, m, get_left h1 _, get_left h2 _⟩
section
variable {i l j : Nat} {o : O} {fs gs : List (Nat × O)} {G G' T : List O}
theorem LS.draw (h : LS i l fs G) (D : Deck G' i l) (k : Keep i l G G') : LS i l fs G' := ⟨D, fun p hp => let ⟨a, b, c⟩ := h.2 p hp; ⟨a, b, k.get a b c⟩⟩
theorem LS.app (h : LS i l fs G) (T : List O) : LS i l fs (G ++ T) := ⟨h.1.app T, fun p hp => let ⟨a, b, c⟩ := h.2 p hp; ⟨a, b, get_left c T⟩⟩
theorem LS.mem (h : LS i l fs G) (hp : (j, o) ∈ fs) : G[j]? = some o := (h.2 _ hp).2.2
theorem LS.sub (h : LS i l fs G) (hs : ∀ p ∈ gs, p ∈ fs) : LS i l gs G := ⟨h.1, fun p hp => h.2 p (hs p hp)⟩
theorem LS.lt (h : LS i l fs G) : i < G.length ∧ l < G.length := by
  obtain ⟨⟨_, xs, m, h1, h2⟩, _⟩ := h
  exact ⟨(List.getElem?_eq_some_iff.mp h1).1, (List.getElem?_eq_some_iff.mp h2).1⟩
theorem LS.new (h : LS i l fs G) (hj : (G ++ T)[j]? = some o) (hg : G.length ≤ j) : LS i l ((j, o) :: fs) (G ++ T) := by
  have := h.lt
  refine ⟨h.1.app T, fun p hp => ?_⟩
  rcases List.mem_cons.mp hp with rfl | hp
  · exact ⟨by dsimp only; (first | lia | omega), by dsimp only; (first | lia | omega), hj⟩
  · exact (h.app T).2 p hp
/-- a put at j -/
theorem LS.put (h : LS i l ((j, o) :: fs) G) (hd : ∀ p ∈ fs, p.1 ≠ j) (o' : O) : LS i l ((j, o') :: fs) (G.set j o') := by
  obtain ⟨⟨hil, xs, m, h1, h2⟩, hf⟩ := h
  obtain ⟨a, b, c⟩ := hf _ (List.mem_cons_self ..)
  dsimp only at a b c
  refine ⟨⟨hil, xs, m, by rw [List.getElem?_set_ne a]; exact h1, by rw [List.getElem?_set_ne b]; exact h2⟩, fun p hp => ?_⟩
  rcases List.mem_cons.mp hp with rfl | hp
  · exact ⟨a, b, by rw [List.getElem?_set_self (List.getElem?_eq_some_iff.mp c).1]⟩
  · obtain ⟨a', b', c'⟩ := hf p (List.mem_cons_of_mem _ hp)
    exact ⟨a', b', by rw [List.getElem?_set_ne (fun e => hd p hp e.symm)]; exact c'⟩
end
theorem std_ok : std.Ok := ⟨.inl rfl, by decide, by decide, by decide, by decide, by decide, by decide, .inl rfl⟩
theorem oct_ok {a b c : Int} (h1 : 1 ≤ a) (h2 : a ≤ 4) (h3 : 1 ≤ b) (h4 : b ≤ min 2 a) (h5 : c = 128 ∨ c = 100) : Pm.Ok ⟨8, b, a, 5, 3, 9, c⟩ := by
  have h6 := Int.min_le_left 2 a
  have h7 := Int.min_le_right 2 a
  constructor
  · exact .inr rfl
  · exact h3
  · show b ≤ a; (first | lia | omega)
  · show a ≤ 26; (first | lia | omega)
  · show a + 4 ≤ 8; (first | lia | omega)
  · show 1 ≤ (5 : Int) ∧ (5 : Int) ≤ 1000; (first | lia | omega)
  · show 1 ≤ (3 : Int) ∧ (3 : Int) ≤ 1000; (first | lia | omega)
  · exact h5
noncomputable def pool : List Int := [97, 98, 45, 65, 128, 252, 1000, 8364, 65536, 1114111, 57344, 127]
theorem pool_ok : ∀ c ∈ pool, okc c := by decide
noncomputable def signs : List Int := [97, 98, 122, 65, 90, 48, 57, 45, 107, 53, 45, 45, 228, 33, 57, 57, 122, 122, 122]
theorem signs_ok : ∀ c ∈ signs, 0 ≤ c ∧ c < 256 := by decide
/-- the body of a def, known by its place -/
theorem body_is {P : PySem.Params} {a : Addr} {name qual name' qual' : PySem.Str} {params params' : Arguments} {body body' : List Stmt} {scope scope' : Scope} {dV kV doc pm cdv ct oc dV' kV' doc' pm' cdv' ct' oc' : Value} {an od an' od' : Option Addr} {osl osl' : Array (Option Value)}
    (h : (hd.heap_39 P).lookup a = some ⟨oc, od, .func (fnX name qual params body scope [] dV kV doc pm an cdv ct), osl⟩) (h' : (hd.heap_39 P).lookup a = some ⟨oc', od', .func (fnX name' qual' params' body' scope' [] dV' kV' doc' pm' an' cdv' ct'), osl'⟩) : body = body' ∧ scope = scope' := by
  rw [h] at h'
  have h' := Option.some.inj h'
  have := congrArg Obj.data h'
  injection this with this
  exact ⟨FuncBody.stmts.inj (congrArg FuncData.body this), congrArg FuncData.scope this⟩
end
section
section
variable {x : Sx} {E : Nat → St → Prop} {i l : Nat} {fs : List (Nat × O)} {G H : List O} {loc : List (PySem.Str × V)}
theorem LS.ne (h : LS i l fs G) : ∀ p ∈ fs, p.1 ≠ G.length := fun p hp e => by
  have := (List.getElem?_eq_some_iff.mp (h.2 p hp).2.2).1
  (first | lia | omega)
theorem LS.drawF {k : Int} {Q : V → St → Prop} (h : LS i l fs G) (hk : 0 < k) (q : ∀ v G', 0 ≤ v → v < k → LS i l fs G' → Q (.int v) ⟨loc, G'⟩) (h0 : 0 < x.d := by exact Nat.succ_pos _) (h1 : x.hx = false := by rfl) : CallF x E 210 [.ref i, .int k] ⟨loc, G⟩ Q :=
  CallF.of h0 h1 (draw_call h.1 hk fun v G' a b D kp => q v G' a b (h.draw D kp))
theorem LS.tup {ts : List Expr} {k p} {vs : List V} {Q : St → Prop} (L : LS i l fs H) (h : ∀ G, LS i l fs G → TAsgs x E ts vs ⟨loc, G⟩ Q) (hn : ts.length = vs.length) (hl : ∀ env, (assignEach ts env).length = ts.length) (hs : ∀ env, (assignEach ts env).findIdx? (·.1) = Option.none) (hh0 : x.hx = false := by rfl) :
    TAsg x E (.Tuple ts k p) (.ref H.length) ⟨loc, H ++ [.tuple vs]⟩ Q := TAsg.tupRef (get_at _ _ []) (h _ (L.app _)) hn hl hs hh0
theorem LS.store {wi : Nat} {w w' : Pm} {n : PySem.Str} {v : V} {Q : St → Prop} (L : LS i l ((wi, .map w.fs) :: fs) G) (hj : ∀ p ∈ fs, p.1 ≠ wi) (he : putV w.fs n v = w'.fs) (h : ∀ G', LS i l ((wi, .map w'.fs) :: fs) G' → Q ⟨loc, G'⟩) : TSet x E (.ref wi) (.str n) v ⟨loc, G⟩ Q :=
  TSet.map (L.mem (List.mem_cons_self ..)) (by rw [he]; show 7 ≤ 1000; decide) (h _ (by rw [he]; exact L.put hj _))
theorem LS.new2 {j k : Nat} {o o' : O} {T : List O} (h : LS i l fs G) (hj : (G ++ T)[j]? = some o) (hk : (G ++ T)[k]? = some o') (gj : G.length ≤ j) (gk : G.length ≤ k) : LS i l ((j, o) :: (k, o') :: fs) (G ++ T) := by
  have := h.lt
  refine ⟨h.1.app T, fun p hp => ?_⟩
  rcases List.mem_cons.mp hp with rfl | hp
  · exact ⟨by dsimp only; (first | lia | omega), by dsimp only; (first | lia | omega), hj⟩
  · exact (h.new hk gk).2 p hp
end
theorem IsPs.len {page : List Int} {first : Int} {ps : List Pr} (h : IsPs page first ps) : ps.length ≤ page.length := by
  have hn : ps.Nodup := h.1.imp fun {a b} hab e => by subst e; rw [plt_iff] at hab; (first | lia | omega)
  refine Nat.le_trans (sub_len hn (m := prs page first page.length) fun q hq => prs_mem.mpr ?_) (prs_len ..)
  obtain ⟨a, b, c⟩ := (h.2 q).mp hq
  have := (List.getElem?_eq_some_iff.mp b).1
  exact ⟨a, by (first | lia | omega), b, c⟩
theorem tail_len {w : Pm} {page : List Int} (ok : w.Ok) : ∀ (ps : List Pr) (many state place b : Int) (f : Bool), Good page ps many state place → (tail w page ps many state place b f).length ≤ 41 * ps.length
  | [], _, _, _, _, _, _ => by simp [tail]
  | q :: r, many, state, place, b, f, ⟨g1, g2⟩ => by
    rw [tail, List.length_append, List.length_cons]
    refine Nat.le_trans (Nat.add_le_add (nums_len ok g1.1 g1.2) (tail_len ok r _ _ _ _ _ g2)) ?_
    (first | lia | omega)
theorem wr_len {w : Pm} {page : List Int} {ps : List Pr} (ok : w.Ok) (hz : page.length ≤ 6) (hp : IsPs page w.first ps) (g : Good page ps (plainOf w page).length w.first 0) : (wr w page ps).length < 900 := by
  unfold wr
  have h1 := tail_len ok ps (plainOf w page).length w.first 0 w.bias true g
  have h2 := hp.len
  have h3 : (plainOf w page).length ≤ page.length := List.length_filter_le ..
  rw [List.length_append, List.length_append]
  have h4 : (if plainOf w page = [] then ([] : List Int) else [45]).length ≤ 1 := by split <;> simp
  (first | lia | omega)
end
section
theorem cutAt {x : Sx} {E : Nat → St → Prop} {σ : St} {n : Nat} {s : Stmt} {body : List Stmt} {Q : Fl → St → Prop} (I : St → Prop) (hs : body[n]? = some s) (next : ∀ σ', I σ' → TSs x E σ' (body.drop (n + 1)) Q)
    (h : TS x E σ s (fun fl σ' => match fl with | .next => I σ' | fl => Q fl σ')) : TSs x E σ (body.drop n) Q := by
  have : body.drop n = s :: body.drop (n + 1) := by
    obtain ⟨hn, e⟩ := List.getElem?_eq_some_iff.mp hs
    rw [List.drop_eq_getElem_cons hn, e]
  rw [this]
  exact TSs.cut1 I h next
inductive J1 (σ : St) : Prop
  | mk (i : Nat) (l : Nat) (h0 : LS i l [(2, .cell (some (.ref i))), (0, .cell none), (1, .cell none)] σ.H)
inductive J2 (σ : St) : Prop
  | mk (i : Nat) (l : Nat) (wi : Nat) (h0 : LS i l [(wi, .map std.fs), (2, .cell (some (.ref i))), (0, .cell none), (1, .cell none)] σ.H) (h1 : 2 < wi) (h2 : Has σ.loc [("w", .ref wi)])
inductive J3 (σ : St) : Prop
  | mk (i : Nat) (l : Nat) (wi : Nat) (w : Pm) (h0 : w.Ok) (h1 : (w.base = 36 → w = std)) (h2 : LS i l [(wi, .map w.fs), (2, .cell (some (.ref i))), (0, .cell none), (1, .cell none)] σ.H) (h3 : 2 < wi) (h4 : Has σ.loc [("w", .ref wi)])
inductive J4 (σ : St) : Prop
  | mk (i : Nat) (l : Nat) (wi : Nat) (w : Pm) (ni : Nat) (nj : Nat) (h0 : w.Ok) (h1 : (w.base = 36 → w = std)) (h2 : LS i l [(wi, .map w.fs), (ni, .inst 100 nj), (nj, .dict w.fs), (2, .cell (some (.ref i))), (0, .cell none), (1, .cell none)] σ.H) (h3 : (2 < wi ∧ 2 < ni ∧ 2 < nj)) (h4 : Has σ.loc [("w", .ref wi), ("numbers", .ref ni)])
inductive J5 (σ : St) : Prop
  | mk (i : Nat) (l : Nat) (wi : Nat) (w : Pm) (ni : Nat) (nj : Nat) (pi : Nat) (h0 : w.Ok) (h1 : (w.base = 36 → w = std)) (h2 : LS i l [(wi, .map w.fs), (ni, .inst 100 nj), (nj, .dict w.fs), (pi, .list (pool.map V.int)), (2, .cell (some (.ref i))), (0, .cell none), (1, .cell (some (.ref pi)))] σ.H) (h3 : (2 < wi ∧ 2 < ni ∧ 2 < nj ∧ 2 < pi)) (h4 : Has σ.loc [("w", .ref wi), ("numbers", .ref ni)])
inductive J6 (σ : St) : Prop
  | mk (i : Nat) (l : Nat) (wi : Nat) (w : Pm) (ni : Nat) (nj : Nat) (pg : Nat) (page : List Int) (h0 : w.Ok) (h1 : (w.base = 36 → w = std)) (h2 : page.length ≤ 6) (h3 : (∀ c ∈ page, okc c)) (h4 : LS i l [(wi, .map w.fs), (ni, .inst 100 nj), (nj, .dict w.fs), (pg, .list (page.map V.int)), (2, .cell (some (.ref i))), (0, .cell none)] σ.H) (h5 : (2 < wi ∧ 2 < ni ∧ 2 < nj ∧ 2 < pg)) (h6 : Has σ.loc [("page", .ref pg), ("w", .ref wi), ("numbers", .ref ni)])
inductive J7 (σ : St) : Prop
  | mk (i : Nat) (l : Nat) (wi : Nat) (w : Pm) (ni : Nat) (nj : Nat) (pg : Nat) (page : List Int) (ps : List Pr) (h0 : w.Ok) (h1 : (w.base = 36 → w = std)) (h2 : page.length ≤ 6) (h3 : (∀ c ∈ page, okc c)) (h4 : IsPs page w.first ps) (h5 : Good page ps (plainOf w page).length w.first 0) (h6 : LS i l [(wi, .map w.fs), (ni, .inst 100 nj), (nj, .dict w.fs), (pg, .list (page.map V.int)), (2, .cell (some (.ref i))), (0, .cell none)] σ.H) (h7 : (2 < wi ∧ 2 < ni ∧ 2 < nj ∧ 2 < pg)) (h8 : Has σ.loc [("octets", .bytes (wr w page ps)), ("page", .ref pg), ("w", .ref wi), ("numbers", .ref ni)])
inductive J10 (σ : St) : Prop
  | mk (i : Nat) (l : Nat) (wi : Nat) (w : Pm) (ni : Nat) (nj : Nat) (pg : Nat) (page : List Int) (h0 : w.Ok) (h1 : (w.base = 36 → w = std)) (h2 : page.length ≤ 6) (h3 : (∀ c ∈ page, okc c)) (h4 : LS i l [(wi, .map w.fs), (ni, .inst 100 nj), (nj, .dict w.fs), (pg, .list (page.map V.int)), (2, .cell (some (.ref i))), (0, .cell (some (.bytes signs)))] σ.H) (h5 : Has σ.loc [("page", .ref pg), ("w", .ref wi), ("numbers", .ref ni)])
inductive J11 (σ : St) : Prop
  | mk (i : Nat) (l : Nat) (wi : Nat) (w : Pm) (ni : Nat) (nj : Nat) (pg : Nat) (page : List Int) (xs : List Int) (h0 : xs.length ≤ 7) (h1 : w.Ok) (h2 : page.length ≤ 6) (h3 : (∀ c ∈ page, okc c)) (h4 : LS i l [(wi, .map w.fs), (ni, .inst 100 nj), (nj, .dict w.fs), (pg, .list (page.map V.int)), (2, .cell (some (.ref i)))] σ.H) (h5 : Has σ.loc [("octets", .bytes xs), ("page", .ref pg), ("w", .ref wi), ("numbers", .ref ni)])
inductive J12 (σ : St) : Prop
  | mk (i : Nat) (l : Nat) (w : Pm) (ni : Nat) (nj : Nat) (pg : Nat) (page : List Int) (h0 : w.Ok) (h1 : page.length ≤ 6) (h2 : (∀ c ∈ page, okc c)) (h3 : LS i l [(ni, .inst 100 nj), (nj, .dict w.fs), (pg, .list (page.map V.int)), (2, .cell (some (.ref i)))] σ.H) (h4 : Has σ.loc [("page", .ref pg), ("numbers", .ref ni)])
end
section
theorem law_0 {P : PySem.Params} {name qual : PySem.Str} {params : Arguments} {body : List Stmt} {scope : Scope} {dV kV doc pm cdv ct oc : Value} {an od : Option Addr} {osl : Array (Option Value)}
    (ho : (hd.heap_39 P).lookup 253 = some ⟨oc, od, .func (fnX name qual params body scope [] dV kV doc pm an cdv ct), osl⟩) {xs : List Int} (hz : xs.length ≤ 63)
    (next : ∀ σ, J1 σ → TSs ⟨scope, (["signs", "pool", "deck"] : List PySem.Str).zipIdx 0, 12, false, true⟩ (fun _ _ => False) σ (body.drop 1) (fun fl _ => fl = .ret (.bool true))) : ∀ σ, σ = ⟨[("script", .gl xs)], [.cell none, .cell none, .cell none]⟩ → TSs ⟨scope, (["signs", "pool", "deck"] : List PySem.Str).zipIdx 0, 12, false, true⟩ (fun _ _ => False) σ (body.drop 0) (fun fl _ => fl = .ret (.bool true)) := by
  obtain ⟨hb, hsc⟩ := body_is ho (by k_is)
  obtain rfl : scope = ⟨_, _, _, _, _⟩ := hsc
  rintro σ rfl
  (with_reducible refine' cutAt _ ?hs next ?_); (case hs => rw [hb]; exact rfl)
  clear hb ho
  repeat' k_caughtB
  refine CallF.of (Nat.lt_succ_self _) rfl (deck_call (by (first | lia | omega)) ?_)
  rintro H' i l hi hl ⟨T, rfl⟩ D
  repeat' k_caughtB
  refine TStore.cell rfl rfl (u := Option.none) rfl ?_
  dsimp only at hi hl
  simp only [List.length_cons, List.length_nil] at hi hl
  refine ⟨i, l, LS.put (o := .cell none) ⟨D, fun p hp => ?_⟩ (by simp) _⟩
  simp only [List.mem_cons, List.not_mem_nil, or_false] at hp
  rcases hp with rfl | rfl | rfl
  · exact ⟨by dsimp only; (first | lia | omega), by dsimp only; (first | lia | omega), rfl⟩
  · exact ⟨by dsimp only; (first | lia | omega), by dsimp only; (first | lia | omega), rfl⟩
  · exact ⟨by dsimp only; (first | lia | omega), by dsimp only; (first | lia | omega), rfl⟩
end
section
theorem law_1 {P : PySem.Params} {name qual : PySem.Str} {params : Arguments} {body : List Stmt} {scope : Scope} {dV kV doc pm cdv ct oc : Value} {an od : Option Addr} {osl : Array (Option Value)}
    (ho : (hd.heap_39 P).lookup 253 = some ⟨oc, od, .func (fnX name qual params body scope [] dV kV doc pm an cdv ct), osl⟩)
    (next : ∀ σ, J2 σ → TSs ⟨scope, (["signs", "pool", "deck"] : List PySem.Str).zipIdx 0, 12, false, true⟩ (fun _ _ => False) σ (body.drop 2) (fun fl _ => fl = .ret (.bool true))) : ∀ σ, J1 σ → TSs ⟨scope, (["signs", "pool", "deck"] : List PySem.Str).zipIdx 0, 12, false, true⟩ (fun _ _ => False) σ (body.drop 1) (fun fl _ => fl = .ret (.bool true)) := by
  obtain ⟨hb, hsc⟩ := body_is ho (by k_is)
  obtain rfl : scope = ⟨_, _, _, _, _⟩ := hsc
  rintro ⟨loc, G⟩ ⟨i, l, L⟩
  dsimp only at L
  (with_reducible refine' cutAt _ ?hs next ?_); (case hs => rw [hb]; exact rfl)
  clear hb ho
  (with_reducible refine' TS.forg (loc' := []) Has.nil ?_)
  repeat' k_caughtB
  (with_reducible refine' TE.dict (TPairs.cons ?_) ?k1 ?k2 ?k3 ?k4); (case k1 => rfl); (case k2 => rfl); (case k3 => simp); (case k4 => simp)
  repeat' k_caughtB
  (with_reducible refine' TPairs.cons ?_)
  repeat' k_caughtB
  (with_reducible refine' TPairs.cons ?_)
  repeat' k_caughtB
  (with_reducible refine' TPairs.cons ?_)
  repeat' k_caughtB
  (with_reducible refine' TPairs.cons ?_)
  repeat' k_caughtB
  (with_reducible refine' TPairs.cons ?_)
  repeat' k_caughtB
  (with_reducible refine' TPairs.cons ?_)
  repeat' k_caughtB
  (with_reducible refine' TPairs.nil ?_)
  refine ⟨by decide, by decide, get_at _ _ _, ?_⟩
  dsimp only
  rw [set_at]
  repeat' k_caughtB
  have hlt := L.lt
  exact ⟨i, l, G.length, L.new (get_at _ _ []) (Nat.le_refl _), by have := (List.getElem?_eq_some_iff.mp (L.mem (j := 2) (o := .cell (some (.ref i))) (by simp))).1; (first | lia | omega), by k_caughtNB⟩
end
section
theorem law_2 {P : PySem.Params} {name qual : PySem.Str} {params : Arguments} {body : List Stmt} {scope : Scope} {dV kV doc pm cdv ct oc : Value} {an od : Option Addr} {osl : Array (Option Value)}
    (ho : (hd.heap_39 P).lookup 253 = some ⟨oc, od, .func (fnX name qual params body scope [] dV kV doc pm an cdv ct), osl⟩)
    (next : ∀ σ, J3 σ → TSs ⟨scope, (["signs", "pool", "deck"] : List PySem.Str).zipIdx 0, 12, false, true⟩ (fun _ _ => False) σ (body.drop 3) (fun fl _ => fl = .ret (.bool true))) : ∀ σ, J2 σ → TSs ⟨scope, (["signs", "pool", "deck"] : List PySem.Str).zipIdx 0, 12, false, true⟩ (fun _ _ => False) σ (body.drop 2) (fun fl _ => fl = .ret (.bool true)) := by
  obtain ⟨hb, hsc⟩ := body_is ho (by k_is)
  obtain rfl : scope = ⟨_, _, _, _, _⟩ := hsc
  rintro ⟨loc, G⟩ ⟨i, l, wi, L, hw, hl⟩
  dsimp only at L hl
  (with_reducible refine' cutAt _ ?hs next ?_); (case hs => rw [hb]; exact rfl)
  clear hb ho
  (with_reducible refine' TS.forg hl ?_)
  have cD := L.mem (j := 2) (o := .cell (some (.ref i))) (by simp)
  repeat' (first | ((with_reducible refine' TItem.listG ?k0 ?k1 ?k2 (fun _ _ => ?_) ?k4); (case k0 => k_caughtN0); (case k1 => (first | lia | omega)); (case k2 => (first | lia | omega)); (case k4 => intro _ _; rfl)) | (with_reducible refine CallB.min2 rfl ?_) | k_caughtB | ((with_reducible refine' TS.asgD ?_ ?k1 ?k2 ?k3 ?k4 ?k5 ?k6); (case k1 => intro _ _; rfl); (case k2 => intro env e; cases env; dsimp only at e; subst e; rfl); (case k3 => intro _; rfl); (case k4 => intro _; rfl); (case k5 => simp); (case k6 => rfl)))
  refine L.drawF (by decide) fun v G v0 v4 L => ?_
  repeat' (first | ((with_reducible refine' TItem.listG ?k0 ?k1 ?k2 (fun _ _ => ?_) ?k4); (case k0 => k_caughtN0); (case k1 => (first | lia | omega)); (case k2 => (first | lia | omega)); (case k4 => intro _ _; rfl)) | (with_reducible refine CallB.min2 rfl ?_) | k_caughtB | ((with_reducible refine' TS.asgD ?_ ?k1 ?k2 ?k3 ?k4 ?k5 ?k6); (case k1 => intro _ _; rfl); (case k2 => intro env e; cases env; dsimp only at e; subst e; rfl); (case k3 => intro _; rfl); (case k4 => intro _; rfl); (case k5 => simp); (case k6 => rfl)))
  · have cD := L.mem (j := 2) (o := .cell (some (.ref i))) (by simp)
    repeat' (first | ((with_reducible refine' TItem.listG ?k0 ?k1 ?k2 (fun _ _ => ?_) ?k4); (case k0 => k_caughtN0); (case k1 => (first | lia | omega)); (case k2 => (first | lia | omega)); (case k4 => intro _ _; rfl)) | (with_reducible refine CallB.min2 rfl ?_) | k_caughtB | ((with_reducible refine' TS.asgD ?_ ?k1 ?k2 ?k3 ?k4 ?k5 ?k6); (case k1 => intro _ _; rfl); (case k2 => intro env e; cases env; dsimp only at e; subst e; rfl); (case k3 => intro _; rfl); (case k4 => intro _; rfl); (case k5 => simp); (case k6 => rfl)))
    refine L.drawF (by decide) fun a G a0 a4 L => ?_
    repeat' (first | ((with_reducible refine' TItem.listG ?k0 ?k1 ?k2 (fun _ _ => ?_) ?k4); (case k0 => k_caughtN0); (case k1 => (first | lia | omega)); (case k2 => (first | lia | omega)); (case k4 => intro _ _; rfl)) | (with_reducible refine CallB.min2 rfl ?_) | k_caughtB | ((with_reducible refine' TS.asgD ?_ ?k1 ?k2 ?k3 ?k4 ?k5 ?k6); (case k1 => intro _ _; rfl); (case k2 => intro env e; cases env; dsimp only at e; subst e; rfl); (case k3 => intro _; rfl); (case k4 => intro _; rfl); (case k5 => simp); (case k6 => rfl)))
    refine L.tup (fun G L => ?_) rfl (by intro _; rfl) (by intro _; rfl)
    repeat' (first | ((with_reducible refine' TItem.listG ?k0 ?k1 ?k2 (fun _ _ => ?_) ?k4); (case k0 => k_caughtN0); (case k1 => (first | lia | omega)); (case k2 => (first | lia | omega)); (case k4 => intro _ _; rfl)) | (with_reducible refine CallB.min2 rfl ?_) | k_caughtB | ((with_reducible refine' TS.asgD ?_ ?k1 ?k2 ?k3 ?k4 ?k5 ?k6); (case k1 => intro _ _; rfl); (case k2 => intro env e; cases env; dsimp only at e; subst e; rfl); (case k3 => intro _; rfl); (case k4 => intro _; rfl); (case k5 => simp); (case k6 => rfl)))
    refine TAsg.sub ?_
    repeat' (first | ((with_reducible refine' TItem.listG ?k0 ?k1 ?k2 (fun _ _ => ?_) ?k4); (case k0 => k_caughtN0); (case k1 => (first | lia | omega)); (case k2 => (first | lia | omega)); (case k4 => intro _ _; rfl)) | (with_reducible refine CallB.min2 rfl ?_) | k_caughtB | ((with_reducible refine' TS.asgD ?_ ?k1 ?k2 ?k3 ?k4 ?k5 ?k6); (case k1 => intro _ _; rfl); (case k2 => intro env e; cases env; dsimp only at e; subst e; rfl); (case k3 => intro _; rfl); (case k4 => intro _; rfl); (case k5 => simp); (case k6 => rfl)))
    refine LS.store (w' := ⟨8, 1, 26, 38, 700, 72, 128⟩) L (by simp; (first | lia | omega)) rfl fun G L => ?_
    repeat' (first | ((with_reducible refine' TItem.listG ?k0 ?k1 ?k2 (fun _ _ => ?_) ?k4); (case k0 => k_caughtN0); (case k1 => (first | lia | omega)); (case k2 => (first | lia | omega)); (case k4 => intro _ _; rfl)) | (with_reducible refine CallB.min2 rfl ?_) | k_caughtB | ((with_reducible refine' TS.asgD ?_ ?k1 ?k2 ?k3 ?k4 ?k5 ?k6); (case k1 => intro _ _; rfl); (case k2 => intro env e; cases env; dsimp only at e; subst e; rfl); (case k3 => intro _; rfl); (case k4 => intro _; rfl); (case k5 => simp); (case k6 => rfl)))
    refine TAsg.sub ?_
    repeat' (first | ((with_reducible refine' TItem.listG ?k0 ?k1 ?k2 (fun _ _ => ?_) ?k4); (case k0 => k_caughtN0); (case k1 => (first | lia | omega)); (case k2 => (first | lia | omega)); (case k4 => intro _ _; rfl)) | (with_reducible refine CallB.min2 rfl ?_) | k_caughtB | ((with_reducible refine' TS.asgD ?_ ?k1 ?k2 ?k3 ?k4 ?k5 ?k6); (case k1 => intro _ _; rfl); (case k2 => intro env e; cases env; dsimp only at e; subst e; rfl); (case k3 => intro _; rfl); (case k4 => intro _; rfl); (case k5 => simp); (case k6 => rfl)))
    refine LS.store (w' := ⟨8, 1, 1 + a, 38, 700, 72, 128⟩) L (by simp; (first | lia | omega)) rfl fun G L => ?_
    repeat' (first | ((with_reducible refine' TItem.listG ?k0 ?k1 ?k2 (fun _ _ => ?_) ?k4); (case k0 => k_caughtN0); (case k1 => (first | lia | omega)); (case k2 => (first | lia | omega)); (case k4 => intro _ _; rfl)) | (with_reducible refine CallB.min2 rfl ?_) | k_caughtB | ((with_reducible refine' TS.asgD ?_ ?k1 ?k2 ?k3 ?k4 ?k5 ?k6); (case k1 => intro _ _; rfl); (case k2 => intro env e; cases env; dsimp only at e; subst e; rfl); (case k3 => intro _; rfl); (case k4 => intro _; rfl); (case k5 => simp); (case k6 => rfl)))
    refine TAsg.sub ?_
    repeat' (first | ((with_reducible refine' TItem.listG ?k0 ?k1 ?k2 (fun _ _ => ?_) ?k4); (case k0 => k_caughtN0); (case k1 => (first | lia | omega)); (case k2 => (first | lia | omega)); (case k4 => intro _ _; rfl)) | (with_reducible refine CallB.min2 rfl ?_) | k_caughtB | ((with_reducible refine' TS.asgD ?_ ?k1 ?k2 ?k3 ?k4 ?k5 ?k6); (case k1 => intro _ _; rfl); (case k2 => intro env e; cases env; dsimp only at e; subst e; rfl); (case k3 => intro _; rfl); (case k4 => intro _; rfl); (case k5 => simp); (case k6 => rfl)))
    refine LS.store (w' := ⟨8, 1, 1 + a, 5, 700, 72, 128⟩) L (by simp; (first | lia | omega)) rfl fun G L => ?_
    repeat' (first | ((with_reducible refine' TItem.listG ?k0 ?k1 ?k2 (fun _ _ => ?_) ?k4); (case k0 => k_caughtN0); (case k1 => (first | lia | omega)); (case k2 => (first | lia | omega)); (case k4 => intro _ _; rfl)) | (with_reducible refine CallB.min2 rfl ?_) | k_caughtB | ((with_reducible refine' TS.asgD ?_ ?k1 ?k2 ?k3 ?k4 ?k5 ?k6); (case k1 => intro _ _; rfl); (case k2 => intro env e; cases env; dsimp only at e; subst e; rfl); (case k3 => intro _; rfl); (case k4 => intro _; rfl); (case k5 => simp); (case k6 => rfl)))
    refine TAsg.sub ?_
    repeat' (first | ((with_reducible refine' TItem.listG ?k0 ?k1 ?k2 (fun _ _ => ?_) ?k4); (case k0 => k_caughtN0); (case k1 => (first | lia | omega)); (case k2 => (first | lia | omega)); (case k4 => intro _ _; rfl)) | (with_reducible refine CallB.min2 rfl ?_) | k_caughtB | ((with_reducible refine' TS.asgD ?_ ?k1 ?k2 ?k3 ?k4 ?k5 ?k6); (case k1 => intro _ _; rfl); (case k2 => intro env e; cases env; dsimp only at e; subst e; rfl); (case k3 => intro _; rfl); (case k4 => intro _; rfl); (case k5 => simp); (case k6 => rfl)))
    refine LS.store (w' := ⟨8, 1, 1 + a, 5, 3, 72, 128⟩) L (by simp; (first | lia | omega)) rfl fun G L => ?_
    repeat' (first | ((with_reducible refine' TItem.listG ?k0 ?k1 ?k2 (fun _ _ => ?_) ?k4); (case k0 => k_caughtN0); (case k1 => (first | lia | omega)); (case k2 => (first | lia | omega)); (case k4 => intro _ _; rfl)) | (with_reducible refine CallB.min2 rfl ?_) | k_caughtB | ((with_reducible refine' TS.asgD ?_ ?k1 ?k2 ?k3 ?k4 ?k5 ?k6); (case k1 => intro _ _; rfl); (case k2 => intro env e; cases env; dsimp only at e; subst e; rfl); (case k3 => intro _; rfl); (case k4 => intro _; rfl); (case k5 => simp); (case k6 => rfl)))
    refine TAsg.sub ?_
    repeat' (first | ((with_reducible refine' TItem.listG ?k0 ?k1 ?k2 (fun _ _ => ?_) ?k4); (case k0 => k_caughtN0); (case k1 => (first | lia | omega)); (case k2 => (first | lia | omega)); (case k4 => intro _ _; rfl)) | (with_reducible refine CallB.min2 rfl ?_) | k_caughtB | ((with_reducible refine' TS.asgD ?_ ?k1 ?k2 ?k3 ?k4 ?k5 ?k6); (case k1 => intro _ _; rfl); (case k2 => intro env e; cases env; dsimp only at e; subst e; rfl); (case k3 => intro _; rfl); (case k4 => intro _; rfl); (case k5 => simp); (case k6 => rfl)))
    refine LS.store (w' := ⟨8, 1, 1 + a, 5, 3, 9, 128⟩) L (by simp; (first | lia | omega)) rfl fun G L => ?_
    have cD := L.mem (j := 2) (o := .cell (some (.ref i))) (by simp)
    have cW : G[wi]? = some (.map (Pm.fs ⟨8, 1, 1 + a, 5, 3, 9, 128⟩)) := L.mem (by simp)
    repeat' (first | ((with_reducible refine' TItem.listG ?k0 ?k1 ?k2 (fun _ _ => ?_) ?k4); (case k0 => k_caughtN0); (case k1 => (first | lia | omega)); (case k2 => (first | lia | omega)); (case k4 => intro _ _; rfl)) | (with_reducible refine CallB.min2 rfl ?_) | k_caughtB | ((with_reducible refine' TS.asgD ?_ ?k1 ?k2 ?k3 ?k4 ?k5 ?k6); (case k1 => intro _ _; rfl); (case k2 => intro env e; cases env; dsimp only at e; subst e; rfl); (case k3 => intro _; rfl); (case k4 => intro _; rfl); (case k5 => simp); (case k6 => rfl)))
    have hm : (0 : Int) < min 2 (1 + a) := Int.lt_min.mpr ⟨by decide, by (first | lia | omega)⟩
    refine L.drawF hm fun b G b0 b2 L => ?_
    have L := L.new (T := [.list [.int 128, .int 100]]) (get_at _ _ []) (Nat.le_refl _)
    have cD := L.mem (j := 2) (o := .cell (some (.ref i))) (by simp)
    repeat' (first | ((with_reducible refine' TItem.listG ?k0 ?k1 ?k2 (fun _ _ => ?_) ?k4); (case k0 => k_caughtN0); (case k1 => (first | lia | omega)); (case k2 => (first | lia | omega)); (case k4 => intro _ _; rfl)) | (with_reducible refine CallB.min2 rfl ?_) | k_caughtB | ((with_reducible refine' TS.asgD ?_ ?k1 ?k2 ?k3 ?k4 ?k5 ?k6); (case k1 => intro _ _; rfl); (case k2 => intro env e; cases env; dsimp only at e; subst e; rfl); (case k3 => intro _; rfl); (case k4 => intro _; rfl); (case k5 => simp); (case k6 => rfl)))
    refine L.drawF (by decide) fun c G c0 c2 L => ?_
    refine TItem.listG (cs := [128, 100]) (L.mem (List.mem_cons_self ..)) c0 c2 (fun c hc => ?_) (by intro _ _; rfl)
    have hc' : c = 128 ∨ c = 100 := by simpa using List.mem_of_getElem? hc
    have L := L.sub (gs := _ :: _) (fun p hp => List.mem_cons_of_mem _ hp)

    repeat' (first | ((with_reducible refine' TItem.listG ?k0 ?k1 ?k2 (fun _ _ => ?_) ?k4); (case k0 => k_caughtN0); (case k1 => (first | lia | omega)); (case k2 => (first | lia | omega)); (case k4 => intro _ _; rfl)) | (with_reducible refine CallB.min2 rfl ?_) | k_caughtB | ((with_reducible refine' TS.asgD ?_ ?k1 ?k2 ?k3 ?k4 ?k5 ?k6); (case k1 => intro _ _; rfl); (case k2 => intro env e; cases env; dsimp only at e; subst e; rfl); (case k3 => intro _; rfl); (case k4 => intro _; rfl); (case k5 => simp); (case k6 => rfl)))
    refine TAsg.sub ?_
    repeat' (first | ((with_reducible refine' TItem.listG ?k0 ?k1 ?k2 (fun _ _ => ?_) ?k4); (case k0 => k_caughtN0); (case k1 => (first | lia | omega)); (case k2 => (first | lia | omega)); (case k4 => intro _ _; rfl)) | (with_reducible refine CallB.min2 rfl ?_) | k_caughtB | ((with_reducible refine' TS.asgD ?_ ?k1 ?k2 ?k3 ?k4 ?k5 ?k6); (case k1 => intro _ _; rfl); (case k2 => intro env e; cases env; dsimp only at e; subst e; rfl); (case k3 => intro _; rfl); (case k4 => intro _; rfl); (case k5 => simp); (case k6 => rfl)))
    refine LS.store (w' := ⟨8, 1 + b, 1 + a, 5, 3, 9, 128⟩) L (by simp; (first | lia | omega)) rfl fun G L => ?_
    repeat' (first | ((with_reducible refine' TItem.listG ?k0 ?k1 ?k2 (fun _ _ => ?_) ?k4); (case k0 => k_caughtN0); (case k1 => (first | lia | omega)); (case k2 => (first | lia | omega)); (case k4 => intro _ _; rfl)) | (with_reducible refine CallB.min2 rfl ?_) | k_caughtB | ((with_reducible refine' TS.asgD ?_ ?k1 ?k2 ?k3 ?k4 ?k5 ?k6); (case k1 => intro _ _; rfl); (case k2 => intro env e; cases env; dsimp only at e; subst e; rfl); (case k3 => intro _; rfl); (case k4 => intro _; rfl); (case k5 => simp); (case k6 => rfl)))
    refine TAsg.sub ?_
    repeat' (first | ((with_reducible refine' TItem.listG ?k0 ?k1 ?k2 (fun _ _ => ?_) ?k4); (case k0 => k_caughtN0); (case k1 => (first | lia | omega)); (case k2 => (first | lia | omega)); (case k4 => intro _ _; rfl)) | (with_reducible refine CallB.min2 rfl ?_) | k_caughtB | ((with_reducible refine' TS.asgD ?_ ?k1 ?k2 ?k3 ?k4 ?k5 ?k6); (case k1 => intro _ _; rfl); (case k2 => intro env e; cases env; dsimp only at e; subst e; rfl); (case k3 => intro _; rfl); (case k4 => intro _; rfl); (case k5 => simp); (case k6 => rfl)))
    refine LS.store (w' := ⟨8, 1 + b, 1 + a, 5, 3, 9, c⟩) L (by simp; (first | lia | omega)) rfl fun G L => ?_
    repeat' (first | ((with_reducible refine' TItem.listG ?k0 ?k1 ?k2 (fun _ _ => ?_) ?k4); (case k0 => k_caughtN0); (case k1 => (first | lia | omega)); (case k2 => (first | lia | omega)); (case k4 => intro _ _; rfl)) | (with_reducible refine CallB.min2 rfl ?_) | k_caughtB | ((with_reducible refine' TS.asgD ?_ ?k1 ?k2 ?k3 ?k4 ?k5 ?k6); (case k1 => intro _ _; rfl); (case k2 => intro env e; cases env; dsimp only at e; subst e; rfl); (case k3 => intro _; rfl); (case k4 => intro _; rfl); (case k5 => simp); (case k6 => rfl)))
    have b2' : b < min 2 (1 + a) := b2
    exact ⟨i, l, wi, _, oct_ok (by (first | lia | omega)) (by (first | lia | omega)) (by (first | lia | omega)) (by (first | lia | omega)) hc', fun h => absurd (show (8 : Int) = 36 from h) (by decide), L, hw, by k_caughtNB⟩
  · exact ⟨i, l, wi, std, std_ok, fun _ => rfl, L, hw, by k_caughtNB⟩
end
section
theorem law_3 {P : PySem.Params} {name qual : PySem.Str} {params : Arguments} {body : List Stmt} {scope : Scope} {dV kV doc pm cdv ct oc : Value} {an od : Option Addr} {osl : Array (Option Value)}
    (ho : (hd.heap_39 P).lookup 253 = some ⟨oc, od, .func (fnX name qual params body scope [] dV kV doc pm an cdv ct), osl⟩)
    (next : ∀ σ, J4 σ → TSs ⟨scope, (["signs", "pool", "deck"] : List PySem.Str).zipIdx 0, 12, false, true⟩ (fun _ _ => False) σ (body.drop 4) (fun fl _ => fl = .ret (.bool true))) : ∀ σ, J3 σ → TSs ⟨scope, (["signs", "pool", "deck"] : List PySem.Str).zipIdx 0, 12, false, true⟩ (fun _ _ => False) σ (body.drop 3) (fun fl _ => fl = .ret (.bool true)) := by
  obtain ⟨hb, hsc⟩ := body_is ho (by k_is)
  obtain rfl : scope = ⟨_, _, _, _, _⟩ := hsc
  rintro ⟨loc, G⟩ ⟨i, l, wi, w, ok, hs, L, hw, hl⟩
  dsimp only at L hl
  (with_reducible refine' cutAt _ ?hs next ?_); (case hs => rw [hb]; exact rfl)
  clear hb ho
  (with_reducible refine' TS.forg hl ?_)
  have cW : G[wi]? = some (.map w.fs) := L.mem (by simp)
  have hlt := L.lt
  have hwl := (List.getElem?_eq_some_iff.mp (L.mem (j := 2) (o := .cell (some (.ref i))) (by simp))).1
  repeat' k_caughtB
  refine numbers7 (w := w) (d := 10) (by decide) rfl ?_
  repeat' k_caughtB
  refine ⟨i, l, wi, w, G.length + 1, G.length, ok, hs, (L.new2 (get_at1 _ _ _ _) (get_at _ _ _) (Nat.le_add_right _ 1) (Nat.le_refl _)).sub (by simp), ⟨hw, by (first | lia | omega), by (first | lia | omega)⟩, by k_caughtNB⟩
end
section
theorem law_4 {P : PySem.Params} {name qual : PySem.Str} {params : Arguments} {body : List Stmt} {scope : Scope} {dV kV doc pm cdv ct oc : Value} {an od : Option Addr} {osl : Array (Option Value)}
    (ho : (hd.heap_39 P).lookup 253 = some ⟨oc, od, .func (fnX name qual params body scope [] dV kV doc pm an cdv ct), osl⟩)
    (next : ∀ σ, J5 σ → TSs ⟨scope, (["signs", "pool", "deck"] : List PySem.Str).zipIdx 0, 12, false, true⟩ (fun _ _ => False) σ (body.drop 5) (fun fl _ => fl = .ret (.bool true))) : ∀ σ, J4 σ → TSs ⟨scope, (["signs", "pool", "deck"] : List PySem.Str).zipIdx 0, 12, false, true⟩ (fun _ _ => False) σ (body.drop 4) (fun fl _ => fl = .ret (.bool true)) := by
  obtain ⟨hb, hsc⟩ := body_is ho (by k_is)
  obtain rfl : scope = ⟨_, _, _, _, _⟩ := hsc
  rintro ⟨loc, G⟩ ⟨i, l, wi, w, ni, nj, ok, hs, L, ⟨hw, hn, hm⟩, hl⟩
  dsimp only at L hl
  (with_reducible refine' cutAt _ ?hs next ?_); (case hs => rw [hb]; exact rfl)
  clear hb ho
  (with_reducible refine' TS.forg hl ?_)
  have hwl := (List.getElem?_eq_some_iff.mp (L.mem (j := 2) (o := .cell (some (.ref i))) (by simp))).1
  repeat' k_caughtB
  refine TStore.cell rfl rfl (u := Option.none) (get_left (L.mem (by simp)) _) ?_
  have L1 : LS i l ((1, .cell none) :: (G.length, .list (pool.map V.int)) :: [(wi, .map w.fs), (ni, .inst 100 nj), (nj, .dict w.fs), (2, .cell (some (.ref i))), (0, .cell none)]) (G ++ [.list (pool.map V.int)]) := (L.new (get_at _ _ []) (Nat.le_refl _)).sub (by simp)
  exact ⟨i, l, wi, w, ni, nj, G.length, ok, hs, (L1.put (by simp; (first | lia | omega)) _).sub (by simp), ⟨hw, hn, hm, hwl⟩, by k_caughtNB⟩
end
section
theorem law_5 {P : PySem.Params} {name qual : PySem.Str} {params : Arguments} {body : List Stmt} {scope : Scope} {dV kV doc pm cdv ct oc : Value} {an od : Option Addr} {osl : Array (Option Value)}
    (ho : (hd.heap_39 P).lookup 253 = some ⟨oc, od, .func (fnX name qual params body scope [] dV kV doc pm an cdv ct), osl⟩)
    (next : ∀ σ, J6 σ → TSs ⟨scope, (["signs", "pool", "deck"] : List PySem.Str).zipIdx 0, 12, false, true⟩ (fun _ _ => False) σ (body.drop 6) (fun fl _ => fl = .ret (.bool true))) : ∀ σ, J5 σ → TSs ⟨scope, (["signs", "pool", "deck"] : List PySem.Str).zipIdx 0, 12, false, true⟩ (fun _ _ => False) σ (body.drop 5) (fun fl _ => fl = .ret (.bool true)) := by
  obtain ⟨hb, hsc⟩ := body_is ho (by k_is)
  obtain rfl : scope = ⟨_, _, _, _, _⟩ := hsc
  rintro ⟨loc, G⟩ ⟨i, l, wi, w, ni, nj, pi, ok, hs, L, ⟨hw, hn, hm, hp⟩, hl⟩
  dsimp only at L hl
  (with_reducible refine' cutAt _ ?hs next ?_); (case hs => rw [hb]; exact rfl)
  clear hb ho
  (with_reducible refine' TS.forg hl ?_)
  have cD := L.mem (j := 2) (o := .cell (some (.ref i))) (by simp)
  refine TS.asgCompB (TIt.range rfl (by intro P; k_is) rfl (by decide) ?_ (by intro _ _; rfl) (by intro _; rfl) rfl) (by intro env e; cases env; dsimp only at e; subst e; rfl) (by intro _ _; rfl) rfl rfl rfl rfl
  repeat' (first | (with_reducible refine TTests.nil ?_) | ((with_reducible refine' TItem.listG ?k0 ?k1 ?k2 (fun _ _ => ?_) ?k4); (case k0 => k_caughtN0); (case k1 => (first | lia | omega)); (case k2 => (first | lia | omega)); (case k4 => intro _ _; rfl)) | k_caughtB)
  refine L.drawF (by decide) fun n G n0 n7 L => ?_
  have hne := L.ne
  have hgl := (List.getElem?_eq_some_iff.mp (L.mem (j := 2) (o := .cell (some (.ref i))) (by simp))).1
  refine ⟨n.toNat, congrArg V.int (by (first | lia | omega)), by (first | lia | omega), fun m σ => ∃ page : List Int, page.length = m ∧ (∀ c ∈ page, okc c) ∧ LS i l ((G.length, .list (page.map V.int)) :: [(wi, .map w.fs), (ni, .inst 100 nj), (nj, .dict w.fs), (pi, .list (pool.map V.int)), (2, .cell (some (.ref i))), (0, .cell none), (1, .cell (some (.ref pi)))]) σ.H, ⟨[], rfl, by simp, L.new (get_at _ _ []) (Nat.le_refl _)⟩, fun _ _ _ => trivial, ?_, ?_⟩
  · rintro m ⟨loc, H⟩ hm' ⟨page, e, hok, L⟩
    dsimp only at L
    refine TAsg.forg (loc' := []) Has.nil ?_
    have cD := L.mem (j := 2) (o := .cell (some (.ref i))) (by simp)
    have cP : H[1]? = some (.cell (some (.ref pi))) := L.mem (by simp)
    repeat' (first | (with_reducible refine TTests.nil ?_) | ((with_reducible refine' TItem.listG ?k0 ?k1 ?k2 (fun _ _ => ?_) ?k4); (case k0 => k_caughtN0); (case k1 => (first | lia | omega)); (case k2 => (first | lia | omega)); (case k4 => intro _ _; rfl)) | k_caughtB)
    refine L.drawF (by decide) fun a G a0 a12 L => ?_
    refine TItem.listG (cs := pool) (L.mem (j := pi) (by simp)) a0 a12 (fun c hc => ?_) (by intro _ _; rfl)
    refine ⟨_, L.mem (List.mem_cons_self ..), by simp; (first | lia | omega), page ++ [c], by simp [e], fun q hq => ?_, ?_⟩
    · rcases List.mem_append.mp hq with hq | hq
      · exact hok q hq
      · rw [List.mem_singleton.mp hq]; exact pool_ok c (List.mem_of_getElem? hc)
    · dsimp only; rw [List.map_append]; exact L.put hne _
  · rintro ⟨loc, H⟩ ⟨page, e, hok, L⟩
    dsimp only at L
    repeat' (first | (with_reducible refine TTests.nil ?_) | ((with_reducible refine' TItem.listG ?k0 ?k1 ?k2 (fun _ _ => ?_) ?k4); (case k0 => k_caughtN0); (case k1 => (first | lia | omega)); (case k2 => (first | lia | omega)); (case k4 => intro _ _; rfl)) | k_caughtB)
    exact ⟨i, l, wi, w, ni, nj, G.length, page, ok, hs, by (first | lia | omega), hok, L.sub (by simp), ⟨hw, hn, hm, hgl⟩, by k_caughtNB⟩
end
section
theorem law_6 {P : PySem.Params} {name qual : PySem.Str} {params : Arguments} {body : List Stmt} {scope : Scope} {dV kV doc pm cdv ct oc : Value} {an od : Option Addr} {osl : Array (Option Value)}
    (ho : (hd.heap_39 P).lookup 253 = some ⟨oc, od, .func (fnX name qual params body scope [] dV kV doc pm an cdv ct), osl⟩)
    (next : ∀ σ, J7 σ → TSs ⟨scope, (["signs", "pool", "deck"] : List PySem.Str).zipIdx 0, 12, false, true⟩ (fun _ _ => False) σ (body.drop 7) (fun fl _ => fl = .ret (.bool true))) : ∀ σ, J6 σ → TSs ⟨scope, (["signs", "pool", "deck"] : List PySem.Str).zipIdx 0, 12, false, true⟩ (fun _ _ => False) σ (body.drop 6) (fun fl _ => fl = .ret (.bool true)) := by
  obtain ⟨hb, hsc⟩ := body_is ho (by k_is)
  obtain rfl : scope = ⟨_, _, _, _, _⟩ := hsc
  rintro ⟨loc, G⟩ ⟨i, l, wi, w, ni, nj, pg, page, ok, hs, hz, hok, L, hw, hl⟩
  dsimp only at L hl
  (with_reducible refine' cutAt _ ?hs next ?_); (case hs => rw [hb]; exact rfl)
  clear hb ho
  (with_reducible refine' TS.forg hl ?_)
  have N : Nums G ni w := ⟨nj, L.mem (by simp), L.mem (by simp)⟩
  have cP : G[pg]? = some (.list (page.map V.int)) := L.mem (by simp)
  obtain ⟨ps, hp⟩ := IsPs.exist page w.first
  repeat' k_caughtB
  refine CallF.of (Nat.lt_succ_self _) rfl (encode_call cP (.inl ⟨ni, rfl, rfl, N⟩) ok (by (first | lia | omega)) hp (fun _ g T => ?_) fun ⟨c, hc, e⟩ => absurd (hok c hc) e)
  repeat' k_caughtB
  exact ⟨i, l, wi, w, ni, nj, pg, page, ps, ok, hs, hz, hok, hp, g, L.app T, hw, by k_caughtNB⟩
end
section
theorem law_7 {P : PySem.Params} {name qual : PySem.Str} {params : Arguments} {body : List Stmt} {scope : Scope} {dV kV doc pm cdv ct oc : Value} {an od : Option Addr} {osl : Array (Option Value)}
    (ho : (hd.heap_39 P).lookup 253 = some ⟨oc, od, .func (fnX name qual params body scope [] dV kV doc pm an cdv ct), osl⟩)
    (next : ∀ σ, J7 σ → TSs ⟨scope, (["signs", "pool", "deck"] : List PySem.Str).zipIdx 0, 12, false, true⟩ (fun _ _ => False) σ (body.drop 8) (fun fl _ => fl = .ret (.bool true))) : ∀ σ, J7 σ → TSs ⟨scope, (["signs", "pool", "deck"] : List PySem.Str).zipIdx 0, 12, false, true⟩ (fun _ _ => False) σ (body.drop 7) (fun fl _ => fl = .ret (.bool true)) := by
  obtain ⟨hb, hsc⟩ := body_is ho (by k_is)
  obtain rfl : scope = ⟨_, _, _, _, _⟩ := hsc
  rintro ⟨loc, G⟩ ⟨i, l, wi, w, ni, nj, pg, page, ps, ok, hs, hz, hok, hp, g, L, hw, hl⟩
  dsimp only at L hl
  (with_reducible refine' cutAt _ ?hs next ?_); (case hs => rw [hb]; exact rfl)
  clear hb ho
  (with_reducible refine' TS.forg hl ?_)
  have N : Nums G ni w := ⟨nj, L.mem (by simp), L.mem (by simp)⟩
  have cP : G[pg]? = some (.list (page.map V.int)) := L.mem (by simp)
  have cW : G[wi]? = some (.map w.fs) := L.mem (by simp)
  have hwr := wr_len ok hz hp g
  obtain ⟨c, hc⟩ := IsCut.exist (wr w page ps)
  have hdec := dec_wr ok hok hp g c hc
  repeat' (first | (with_reducible refine TB.or ?_) | k_caughtB)
  refine CallF.of (Nat.lt_succ_self _) rfl (written_call cW cP ok hz hok hp g fun T => ?_)
  repeat' (first | (with_reducible refine TB.or ?_) | k_caughtB)
  refine Op2.neB ?_
  rw [show (!decide (wr w page ps = wr w page ps)) = false by simp]
  repeat' (first | (with_reducible refine TB.or ?_) | k_caughtB)
  refine CallF.of (Nat.lt_succ_self _) rfl (told_call (N.mono T) ok hwr hc (fun ys hy T' r gr => ?_) fun s hs => ?_)
  · rw [hdec] at hy
    cases hy
    repeat' (first | (with_reducible refine TB.or ?_) | k_caughtB)
    refine Op2.neL gr (get_left (get_left cP _) _) ?_
    rw [show (!decide (page = page)) = false by simp]
    repeat' (first | (with_reducible refine TB.or ?_) | k_caughtB)
    exact ⟨i, l, wi, w, ni, nj, pg, page, ps, ok, hs, hz, hok, hp, g, (L.app T).app T', hw, by k_caughtNB⟩
  · rw [hdec] at hs
    cases hs
end
section
theorem law_8 {P : PySem.Params} {name qual : PySem.Str} {params : Arguments} {body : List Stmt} {scope : Scope} {dV kV doc pm cdv ct oc : Value} {an od : Option Addr} {osl : Array (Option Value)}
    (ho : (hd.heap_39 P).lookup 253 = some ⟨oc, od, .func (fnX name qual params body scope [] dV kV doc pm an cdv ct), osl⟩)
    (next : ∀ σ, J6 σ → TSs ⟨scope, (["signs", "pool", "deck"] : List PySem.Str).zipIdx 0, 12, false, true⟩ (fun _ _ => False) σ (body.drop 9) (fun fl _ => fl = .ret (.bool true))) : ∀ σ, J7 σ → TSs ⟨scope, (["signs", "pool", "deck"] : List PySem.Str).zipIdx 0, 12, false, true⟩ (fun _ _ => False) σ (body.drop 8) (fun fl _ => fl = .ret (.bool true)) := by
  obtain ⟨hb, hsc⟩ := body_is ho (by k_is)
  obtain rfl : scope = ⟨_, _, _, _, _⟩ := hsc
  rintro ⟨loc, G⟩ ⟨i, l, wi, w, ni, nj, pg, page, ps, ok, hs, hz, hok, hp, g, L, hw, hl⟩
  dsimp only at L hl
  (with_reducible refine' cutAt _ ?hs next ?_); (case hs => rw [hb]; exact rfl)
  clear hb ho
  (with_reducible refine' TS.forg hl ?_)
  have N : Nums G ni w := ⟨nj, L.mem (by simp), L.mem (by simp)⟩
  have cP : G[pg]? = some (.list (page.map V.int)) := L.mem (by simp)
  have cW : G[wi]? = some (.map w.fs) := L.mem (by simp)
  have hwr := wr_len ok hz hp g
  obtain ⟨c, hc⟩ := IsCut.exist (wr w page ps)
  have hdec := dec_wr ok hok hp g c hc
  have hl2 : Has [("octets", .bytes (wr w page ps)), ("page", .ref pg), ("w", .ref wi), ("numbers", .ref ni)] [("page", .ref pg), ("w", .ref wi), ("numbers", .ref ni)] := by k_caughtNB
  repeat' (first | (with_reducible refine TB.and ?_) | (with_reducible refine TB.or ?_) | k_caughtB)
  · rename_i h36
    obtain rfl := hs h36
    refine CallF.of (Nat.lt_succ_self _) rfl (encode_call cP (.inr ⟨rfl, rfl, rfl⟩) ok (by (first | lia | omega)) hp (fun _ _ T => ?_) fun ⟨c, hc, e⟩ => absurd (hok c hc) e)
    repeat' (first | (with_reducible refine TB.and ?_) | (with_reducible refine TB.or ?_) | k_caughtB)
    refine Op2.neB ?_
    rw [show (!decide (wr std page ps = wr std page ps)) = false by simp]
    repeat' (first | (with_reducible refine TB.and ?_) | (with_reducible refine TB.or ?_) | k_caughtB)
    refine CallF.of (Nat.lt_succ_self _) rfl (decl_call (.inr ⟨rfl, rfl, rfl⟩) ok hwr hc (fun ys hy T' r gr => ?_) fun s hs => ?_)
    · rw [hdec] at hy
      cases hy
      repeat' (first | (with_reducible refine TB.and ?_) | (with_reducible refine TB.or ?_) | k_caughtB)
      refine CallB.listL gr ?_
      repeat' (first | (with_reducible refine TB.and ?_) | (with_reducible refine TB.or ?_) | k_caughtB)
      refine Op2.neL (get_at _ _ []) (get_left (get_left (get_left cP _) _) _) ?_
      rw [show (!decide (page = page)) = false by simp]
      repeat' (first | (with_reducible refine TB.and ?_) | (with_reducible refine TB.or ?_) | k_caughtB)
      exact ⟨i, l, wi, std, ni, nj, pg, page, ok, hs, hz, hok, ((L.app T).app T').app _, hw, hl2⟩
    · rw [hdec] at hs
      cases hs
  · exact ⟨i, l, wi, w, ni, nj, pg, page, ok, hs, hz, hok, L, hw, hl2⟩
end
section
theorem law_9 {P : PySem.Params} {name qual : PySem.Str} {params : Arguments} {body : List Stmt} {scope : Scope} {dV kV doc pm cdv ct oc : Value} {an od : Option Addr} {osl : Array (Option Value)}
    (ho : (hd.heap_39 P).lookup 253 = some ⟨oc, od, .func (fnX name qual params body scope [] dV kV doc pm an cdv ct), osl⟩)
    (next : ∀ σ, J10 σ → TSs ⟨scope, (["signs", "pool", "deck"] : List PySem.Str).zipIdx 0, 12, false, true⟩ (fun _ _ => False) σ (body.drop 10) (fun fl _ => fl = .ret (.bool true))) : ∀ σ, J6 σ → TSs ⟨scope, (["signs", "pool", "deck"] : List PySem.Str).zipIdx 0, 12, false, true⟩ (fun _ _ => False) σ (body.drop 9) (fun fl _ => fl = .ret (.bool true)) := by
  obtain ⟨hb, hsc⟩ := body_is ho (by k_is)
  obtain rfl : scope = ⟨_, _, _, _, _⟩ := hsc
  rintro ⟨loc, G⟩ ⟨i, l, wi, w, ni, nj, pg, page, ok, hs, hz, hok, L, ⟨hw, hn, hm, hp⟩, hl⟩
  dsimp only at L hl
  (with_reducible refine' cutAt _ ?hs next ?_); (case hs => rw [hb]; exact rfl)
  clear hb ho
  (with_reducible refine' TS.forg hl ?_)
  repeat' (first | ((with_reducible refine' TE.bytes ?_ ?k1); (case k1 => decide)) | k_caughtB)
  refine TStore.cell rfl rfl (u := Option.none) (L.mem (by simp)) ?_
  have L1 : LS i l ((0, .cell none) :: [(wi, .map w.fs), (ni, .inst 100 nj), (nj, .dict w.fs), (pg, .list (page.map V.int)), (2, .cell (some (.ref i)))]) G := L.sub (by simp)
  exact ⟨i, l, wi, w, ni, nj, pg, page, ok, hs, hz, hok, (L1.put (by simp; (first | lia | omega)) _).sub (by simp [signs]), by k_caughtNB⟩
end
section
theorem law_10 {P : PySem.Params} {name qual : PySem.Str} {params : Arguments} {body : List Stmt} {scope : Scope} {dV kV doc pm cdv ct oc : Value} {an od : Option Addr} {osl : Array (Option Value)}
    (ho : (hd.heap_39 P).lookup 253 = some ⟨oc, od, .func (fnX name qual params body scope [] dV kV doc pm an cdv ct), osl⟩)
    (next : ∀ σ, J11 σ → TSs ⟨scope, (["signs", "pool", "deck"] : List PySem.Str).zipIdx 0, 12, false, true⟩ (fun _ _ => False) σ (body.drop 11) (fun fl _ => fl = .ret (.bool true))) : ∀ σ, J10 σ → TSs ⟨scope, (["signs", "pool", "deck"] : List PySem.Str).zipIdx 0, 12, false, true⟩ (fun _ _ => False) σ (body.drop 10) (fun fl _ => fl = .ret (.bool true)) := by
  obtain ⟨hb, hsc⟩ := body_is ho (by k_is)
  obtain rfl : scope = ⟨_, _, _, _, _⟩ := hsc
  rintro ⟨loc, G⟩ ⟨i, l, wi, w, ni, nj, pg, page, ok, hs, hz, hok, L, hl⟩
  dsimp only at L hl
  (with_reducible refine' cutAt _ ?hs next ?_); (case hs => rw [hb]; exact rfl)
  clear hb ho
  (with_reducible refine' TS.forg hl ?_)
  have cD := L.mem (j := 2) (o := .cell (some (.ref i))) (by simp)
  repeat' (first | (with_reducible refine TTests.nil ?_) | k_caughtB)
  refine TE.compB (TIt.range rfl (by intro P; k_is) rfl (by decide) ?_ (by intro _ _; rfl) (by intro _; rfl) rfl) (by intro _ _; rfl) rfl rfl rfl rfl
  repeat' (first | (with_reducible refine TTests.nil ?_) | k_caughtB)
  refine L.drawF (by decide) fun n G n0 n8 L => ?_
  have hne := L.ne
  refine ⟨n.toNat, congrArg V.int (by (first | lia | omega)), by (first | lia | omega), fun m σ => ∃ xs : List Int, xs.length = m ∧ (∀ c ∈ xs, 0 ≤ c ∧ c < 256) ∧ LS i l ((G.length, .list (xs.map V.int)) :: [(wi, .map w.fs), (ni, .inst 100 nj), (nj, .dict w.fs), (pg, .list (page.map V.int)), (2, .cell (some (.ref i))), (0, .cell (some (.bytes signs)))]) σ.H, ⟨[], rfl, by simp, L.new (get_at _ _ []) (Nat.le_refl _)⟩, fun _ _ _ => trivial, ?_, ?_⟩
  · rintro m ⟨loc, H⟩ hm' ⟨xs, e, hok', L⟩
    dsimp only at L
    refine TAsg.forg (loc' := []) Has.nil ?_
    have cD := L.mem (j := 2) (o := .cell (some (.ref i))) (by simp)
    have cS : H[0]? = some (.cell (some (.bytes signs))) := L.mem (by simp)
    repeat' (first | (with_reducible refine TTests.nil ?_) | k_caughtB)
    refine L.drawF (by decide) fun a G a0 a1 L => ?_
    refine TItem.bytesG a0 a1 (fun c hc => ?_) (by intro _ _ _; rfl)
    refine ⟨_, L.mem (List.mem_cons_self ..), by simp; (first | lia | omega), xs ++ [c], by simp [e], fun q hq => ?_, ?_⟩
    · rcases List.mem_append.mp hq with hq | hq
      · exact hok' q hq
      · rw [List.mem_singleton.mp hq]; exact signs_ok c (List.mem_of_getElem? hc)
    · dsimp only; rw [List.map_append]; exact L.put hne _
  · rintro ⟨loc, H⟩ ⟨xs, e, hok', L⟩
    dsimp only at L
    repeat' (first | (with_reducible refine TTests.nil ?_) | k_caughtB)
    refine CallB.bytesL rfl (L.mem (List.mem_cons_self ..)) hok' ?_
    repeat' (first | (with_reducible refine TTests.nil ?_) | k_caughtB)
    exact ⟨i, l, wi, w, ni, nj, pg, page, xs, by (first | lia | omega), ok, hz, hok, L.sub (by simp), by k_caughtNB⟩
end
section
theorem law_11 {P : PySem.Params} {name qual : PySem.Str} {params : Arguments} {body : List Stmt} {scope : Scope} {dV kV doc pm cdv ct oc : Value} {an od : Option Addr} {osl : Array (Option Value)}
    (ho : (hd.heap_39 P).lookup 253 = some ⟨oc, od, .func (fnX name qual params body scope [] dV kV doc pm an cdv ct), osl⟩)
    (next : ∀ σ, J12 σ → TSs ⟨scope, (["signs", "pool", "deck"] : List PySem.Str).zipIdx 0, 12, false, true⟩ (fun _ _ => False) σ (body.drop 12) (fun fl _ => fl = .ret (.bool true))) : ∀ σ, J11 σ → TSs ⟨scope, (["signs", "pool", "deck"] : List PySem.Str).zipIdx 0, 12, false, true⟩ (fun _ _ => False) σ (body.drop 11) (fun fl _ => fl = .ret (.bool true)) := by
  obtain ⟨hb, hsc⟩ := body_is ho (by k_is)
  obtain rfl : scope = ⟨_, _, _, _, _⟩ := hsc
  rintro ⟨loc, G⟩ ⟨i, l, wi, w, ni, nj, pg, page, xs, hx, ok, hz, hok, L, hl⟩
  dsimp only at L hl
  (with_reducible refine' cutAt _ ?hs next ?_); (case hs => rw [hb]; exact rfl)
  clear hb ho
  (with_reducible refine' TS.forg hl ?_)
  have N : Nums G ni w := ⟨nj, L.mem (by simp), L.mem (by simp)⟩
  have cW : G[wi]? = some (.map w.fs) := L.mem (by simp)
  obtain ⟨c, hc⟩ := IsCut.exist xs
  have hl2 : Has [("octets", .bytes xs), ("page", .ref pg), ("w", .ref wi), ("numbers", .ref ni)] [("page", .ref pg), ("numbers", .ref ni)] := by k_caughtNB
  repeat' k_caughtB
  refine CallF.of (Nat.lt_succ_self _) rfl (told_call N ok (by (first | lia | omega)) hc (fun ys hy T r gr => ?_) fun s hs T => ?_)
  · repeat' k_caughtB
    refine CallF.of (Nat.lt_succ_self _) rfl (read_call (get_left cW T) ok (by (first | lia | omega)) hc (fun ys' hy' T' r' gr' => ?_) fun s' hs' T' => ?_)
    · rw [hy] at hy'
      cases hy'
      refine Op2.neL (get_left gr _) gr' ?_
      rw [show (!decide (ys = ys)) = false by simp]
      repeat' k_caughtB
      exact ⟨i, l, w, ni, nj, pg, page, ok, hz, hok, ((L.app T).app T').sub (by simp), hl2⟩
    · rw [hy] at hs'
      cases hs'
  · repeat' k_caughtB
    refine CallF.of (Nat.lt_succ_self _) rfl (read_call (get_left cW T) ok (by (first | lia | omega)) hc (fun ys' hy' T' r' gr' => ?_) fun s' hs' T' => ?_)
    · rw [hs] at hy'
      cases hy'
    · rw [hs] at hs'
      cases hs'
      refine Op2.neS ?_
      rw [show (!decide (s = s)) = false by simp]
      repeat' k_caughtB
      exact ⟨i, l, w, ni, nj, pg, page, ok, hz, hok, ((L.app T).app T').sub (by simp), hl2⟩
end
section
theorem law_12 {P : PySem.Params} {name qual : PySem.Str} {params : Arguments} {body : List Stmt} {scope : Scope} {dV kV doc pm cdv ct oc : Value} {an od : Option Addr} {osl : Array (Option Value)}
    (ho : (hd.heap_39 P).lookup 253 = some ⟨oc, od, .func (fnX name qual params body scope [] dV kV doc pm an cdv ct), osl⟩) : ∀ σ, J12 σ → TSs ⟨scope, (["signs", "pool", "deck"] : List PySem.Str).zipIdx 0, 12, false, true⟩ (fun _ _ => False) σ (body.drop 12) (fun fl _ => fl = .ret (.bool true)) := by
  obtain ⟨hb, hsc⟩ := body_is ho (by k_is)
  obtain rfl : scope = ⟨_, _, _, _, _⟩ := hsc
  rintro ⟨loc, G⟩ ⟨i, l, w, ni, nj, pg, page, ok, hz, hok, L, hl⟩
  dsimp only at L hl
  (with_reducible refine' cutAt (fun _ => False) ?hs (fun _ h => h.elim) ?_); (case hs => rw [hb]; exact rfl)
  clear hb ho
  (with_reducible refine' TS.forg hl ?_)
  have cD := L.mem (j := 2) (o := .cell (some (.ref i))) (by simp)
  repeat' (first | ((with_reducible refine' TItem.listG ?k0 ?k1 ?k2 (fun _ _ => ?_) ?k4); (case k0 => k_caughtN0); (case k1 => (first | lia | omega)); (case k2 => (first | lia | omega)); (case k4 => intro _ _; rfl)) | k_caughtB)
  refine TS.try_ rfl (by intro P; k_is) rfl rfl rfl ?_ rfl
  repeat' (first | ((with_reducible refine' TItem.listG ?k0 ?k1 ?k2 (fun _ _ => ?_) ?k4); (case k0 => k_caughtN0); (case k1 => (first | lia | omega)); (case k2 => (first | lia | omega)); (case k4 => intro _ _; rfl)) | k_caughtB)
  have L := L.new (T := [.list [.int 55296, .int 1114112, .int 57343]]) (get_at _ _ []) (Nat.le_refl _)
  refine L.drawF (by decide) fun a G a0 a3 L => ?_
  refine TItem.listG (cs := [55296, 1114112, 57343]) (L.mem (List.mem_cons_self ..)) a0 a3 (fun c hc => ?_) (by intro _ _; rfl)
  have hc' : c = 55296 ∨ c = 1114112 ∨ c = 57343 := by simpa using List.mem_of_getElem? hc
  have cP : G[pg]? = some (.list (page.map V.int)) := L.mem (by simp)
  have N : Nums G ni w := ⟨nj, L.mem (by simp), L.mem (by simp)⟩
  repeat' (first | ((with_reducible refine' TItem.listG ?k0 ?k1 ?k2 (fun _ _ => ?_) ?k4); (case k0 => k_caughtN0); (case k1 => (first | lia | omega)); (case k2 => (first | lia | omega)); (case k4 => intro _ _; rfl)) | k_caughtB)
  refine Op2.addL (get_left cP _) (get_at _ _ []) (by simp; (first | lia | omega)) ?_
  repeat' (first | ((with_reducible refine' TItem.listG ?k0 ?k1 ?k2 (fun _ _ => ?_) ?k4); (case k0 => k_caughtN0); (case k1 => (first | lia | omega)); (case k2 => (first | lia | omega)); (case k4 => intro _ _; rfl)) | k_caughtB)
  obtain ⟨ps, hp⟩ := IsPs.exist (page ++ [c]) w.first
  refine CallF.of (Nat.lt_succ_self _) rfl (encode_call (page := page ++ [c]) (by rw [List.map_append]; exact get_at _ _ []) (.inl ⟨ni, rfl, rfl, (N.mono _).mono _⟩) ok (by simp; (first | lia | omega)) hp (fun hok' _ _ => absurd (hok' c (by simp)) (by rcases hc' with rfl | rfl | rfl <;> decide)) fun _ j T hT => ?_)
  obtain ⟨r, h1, h2⟩ := hT
  repeat' (first | ((with_reducible refine' TItem.listG ?k0 ?k1 ?k2 (fun _ _ => ?_) ?k4); (case k0 => k_caughtN0); (case k1 => (first | lia | omega)); (case k2 => (first | lia | omega)); (case k4 => intro _ _; rfl)) | k_caughtB)
  refine TGet.told (get_at _ _ []) (get_left h1 _) rfl rfl ?_
  repeat' (first | ((with_reducible refine' TItem.listG ?k0 ?k1 ?k2 (fun _ _ => ?_) ?k4); (case k0 => k_caughtN0); (case k1 => (first | lia | omega)); (case k2 => (first | lia | omega)); (case k4 => intro _ _; rfl)) | k_caughtB)
  refine Op2.eq1S (get_left (get_left h2 _) _) (get_at _ _ []) (by decide +kernel) (by decide +kernel) ?_
  repeat' (first | ((with_reducible refine' TItem.listG ?k0 ?k1 ?k2 (fun _ _ => ?_) ?k4); (case k0 => k_caughtN0); (case k1 => (first | lia | omega)); (case k2 => (first | lia | omega)); (case k4 => intro _ _; rfl)) | k_caughtB)
  exact ⟨[], fun y u hy => (by cases hy), by simp⟩
end
section
theorem law_body {P' : PySem.Params} {h' : Heap} (_ : (hd.heap_39 P').In h') {name qual : PySem.Str} {params : Arguments} {body : List Stmt} {scope : Scope} {dV kV doc pm cdv ct oc : Value} {an od : Option Addr} {osl : Array (Option Value)}
    (ho : (hd.heap_39 P').lookup 253 = some ⟨oc, od, .func (fnX name qual params body scope [] dV kV doc pm an cdv ct), osl⟩) {xs : List Int} (hz : xs.length ≤ 63) : TSs ⟨scope, (["signs", "pool", "deck"] : List PySem.Str).zipIdx 0, 12, false, true⟩ (fun _ _ => False) ⟨[("script", .gl xs)], [.cell none, .cell none, .cell none]⟩ body (fun fl _ => fl = .ret (.bool true)) :=
  law_0 ho hz (law_1 ho (law_2 ho (law_3 ho (law_4 ho (law_5 ho (law_6 ho (law_7 ho (law_8 ho (law_9 ho (law_10 ho (law_11 ho (law_12 ho)))))))))))) _ rfl
end
section
theorem joinT : PySem.Challenge.rw_nt0011_01.Holds := by
  w_on
  refine holds_law hd.said fun said => ?_
  refine holds_open (q := hd.view_39) (loose := hd.loose) (Xt := fun s => xlAt hd.view_39 [] s && recOk (RowW.records PySem.Challenge.rw_nt0011_01.row.toRowW) s) (XP := XL hd.view_39 []) (Yf := Hook.obs hd.H) (Ya := Hook.val hd.H) (YP := Hook.says hd.H) (N := 3414) hd.left (Hook.of hd.H) (Hook.keeps hd.H) (fun s e => xl_of s (Bool.and_eq_true_iff.mp e).1) XL.keeps (by rfl) (by rfl) (by rfl) (fun s e => recFacts_of (Bool.and_eq_true_iff.mp e).2) (by rfl) (by first | assumption | decide +kernel) (by decide +kernel) ⟨rfl, rfl, rfl, rfl, rfl, by decide +kernel⟩ ?hw ?hc
  case hw => w_witness2
  case hc =>
    k_fill
    intro w s₀ s₁ mg mb G Y fa o pm cd doc dV kV ho hd hcd hD hmg hg args vals as hpre hlay hrd hwl hlo
    have KX := kIn_of Y
    have X := (Ground.X G).1
    have V := (Ground.X G).2
    refine Ground.open G ?_
    intro T B D TE TW
    clear D
    obtain ⟨_, _, M⟩ := bmod_of_top T
    have TA := at_of_top T
    try (obtain ⟨_, _, he, B0⟩ := based_of_top T rfl hmg ho hd; have he' : cd = _ := he; subst he'; clear he)
    clear hmg
    wrow_args hpre hlay hrd hwl hlo
    first | refine callC_kw (enter_call ?_) | refine enter_call ?_ | refine callC_kw (enter_callW ?_) | refine enter_callW ?_ | w_how
    w_top on
    try refine codeAny_mono ?_ (fun _ _ g => GoodW.toG g)
    have K0 := below_caller (Top.heap T)
    w_call any ho hd hcd hD T F
    clear hd TA
    k_drop
    rename_i xs _ _ _ _ _ _ _ la lv _ hL _ _ _ hI _ hcond _ _ _ o1 o2 o3 d1 d2 d3 N X0
    refine start (cn := ["signs", "pool", "deck"]) (cs := [_, _, _]) (objs := [o1, o2, o3]) (loc := [("script", .gl xs)]) (Q := fun fl _ => fl = .ret (.bool true)) KX T rfl F ?hloc rfl rfl ?hnd N rfl ?hobj ?h ?hp ?hq
    case hp => exact PassesOwn.leaving
    case hobj =>
      intro o ho
      simp only [List.mem_cons, List.not_mem_nil, or_false] at ho
      rcases ho with rfl | rfl | rfl
      · exact ⟨_, d1⟩
      · exact ⟨_, d2⟩
      · exact ⟨_, d3⟩
    case hnd => simp; (first | lia | omega)
    case hloc =>
      intro x V e
      rw [List.lookup_cons] at e
      cases z : x == ("script" : PySem.Str) with
      | false => rw [z] at e; cases e
      | true =>
        rw [z] at e
        cases e
        rw [beq_iff_eq] at z
        subst z
        exact ⟨_, rfl, la, lv, rfl, hL, hI⟩
    case h => 
      exact law_body KX (by k_is) (by (first | lia | omega))
    case hq =>
      intro fl fl' σ' f ρ' h' t' q eb R r
      subst q
      obtain ⟨v', rfl, rv⟩ := r
      obtain rfl : v' = Value.bool true := rv
      have hkeep : ∀ b o, Heap.get? _ b = some o → h'.get? b = some o := eb ▸ R.stays
      refine ⟨.inl ⟨_, .bool true, [], rfl, fun _ => rfl, .bool true, (by first | kernel_rfl | (show (WShape.has _ _ _ && _) = true; simp [WShape.has])), fun _ => ⟨List.nodup_nil, fun a ha => by cases ha⟩⟩, hkeep, rfl, hg⟩
end
end Mine
theorem PySem.Challenge.cw_nt0011_01_holds : PySem.Challenge.rw_nt0011_01.Holds :=
  Mine.joinT

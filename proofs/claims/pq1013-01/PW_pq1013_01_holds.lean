import PyProof.Rows.All
import Wide.All
import OpenK.AllK
import Wide.FinOn
import PySem.Challenge.RW_pq1013_01
open PySem PySem.W PyProof.Rows PySem.Spec PySem.Calls
set_option Elab.async false
set_option maxRecDepth 100000
set_option maxHeartbeats 16000000
set_option rowWalk.seconds 0
-- the head
namespace Mine
/-- the text's statements, but those that say the files' names -/
def view : Program :=
  { PySem.Challenge.pw_pq1013_01 with main := { PySem.Challenge.pw_pq1013_01.main with body := (PySem.Challenge.pw_pq1013_01.main.body.drop 1).take 3 ++ ((PySem.Challenge.pw_pq1013_01.main.body.drop 5).take 28 ++ PySem.Challenge.pw_pq1013_01.main.body.drop 34) } }
/-- the law's looks, by the library's quick twins -/
theorem law_said : OpenLaw.wellSaid PySem.Challenge.rw_pq1013_01 = true := by rewrite [PySem.W.Fast.te9446332074065402090]; kernel_rfl
namespace Top
/-- a def of the text as the heap holds it -/
noncomputable def fdata (q : Str) (g : Addr) (pm cd : Value) (bl : Addr) : List Stmt → FuncData
  | .FunctionDef n a b _ _ _ sc _ _ _ :: _ => { name := n, qualname := q, params := a, body := .stmts b, scope := sc, globals := g, closure := [], defaults := .none, kwdefaults := .none, pyModule := pm, code := cd, builtins := bl }
  | _ => default
noncomputable def inCls (j : Nat) : List Stmt → List Stmt
  | .ClassDef _ _ _ b _ _ _ _ _ _ _ :: _ => b.drop j
  | _ => []
noncomputable def cells (i : Nat) : List Stmt := PySem.Challenge.pw_pq1013_01.main.body.drop i
/-- the text's names, as they stand at the end; `nm`: what `__name__` says -/
noncomputable def ents (P : Params) (nm : Value) : List DictEntry := [{ hash := PyData.keyHash P (Str.ofString "__name__"), key := Value.str (Str.ofString "__name__") 165, val := nm }, { hash := PyData.keyHash P (Str.ofString "__doc__"), key := Value.str (Str.ofString "__doc__") 166, val := Value.none }, { hash := PyData.keyHash P (Str.ofString "__package__"), key := Value.str (Str.ofString "__package__") 167, val := Value.none }, { hash := PyData.keyHash P (Str.ofString "__loader__"), key := Value.str (Str.ofString "__loader__") 168, val := Value.builtin "__main__.__loader__#opaque" }, { hash := PyData.keyHash P (Str.ofString "__spec__"), key := Value.str (Str.ofString "__spec__") 169, val := Value.none }, { hash := PyData.keyHash P (Str.ofString "__annotations__"), key := Value.str (Str.ofString "__annotations__") 170, val := Value.ref 6 }, { hash := PyData.keyHash P (Str.ofString "__builtins__"), key := Value.str (Str.ofString "__builtins__") 171, val := Value.ref 4 }, { hash := PyData.keyHash P (Str.ofString "__file__"), key := Value.str (Str.ofString "__file__") 173, val := Value.str (Str.ofString "/claim/cut.py") 172 }, { hash := PyData.keyHash P (Str.ofString "__cached__"), key := Value.str (Str.ofString "__cached__") 174, val := Value.none }, { hash := PyData.keyHash P (Str.ofString "SchemeError"), key := Value.str (Str.ofString "SchemeError") 219, val := Value.ref 31 }, { hash := PyData.keyHash P (Str.ofString "OutOfRange"), key := Value.str (Str.ofString "OutOfRange") 248, val := Value.ref 51 }, { hash := PyData.keyHash P (Str.ofString "OutOfDomain"), key := Value.str (Str.ofString "OutOfDomain") 273, val := Value.ref 70 }, { hash := PyData.keyHash P (Str.ofString "REACH"), key := Value.str (Str.ofString "REACH") 279, val := Value.int 65536 278 }, { hash := PyData.keyHash P (Str.ofString "Real"), key := Value.str (Str.ofString "Real") 310, val := Value.ref 89 }, { hash := PyData.keyHash P (Str.ofString "size_of"), key := Value.str (Str.ofString "size_of") 317, val := Value.ref 100 }, { hash := PyData.keyHash P (Str.ofString "sign_of_whole"), key := Value.str (Str.ofString "sign_of_whole") 324, val := Value.ref 107 }, { hash := PyData.keyHash P (Str.ofString "zeros_below"), key := Value.str (Str.ofString "zeros_below") 331, val := Value.ref 114 }, { hash := PyData.keyHash P (Str.ofString "lean"), key := Value.str (Str.ofString "lean") 341, val := Value.ref 121 }, { hash := PyData.keyHash P (Str.ofString "nearest_shift"), key := Value.str (Str.ofString "nearest_shift") 352, val := Value.ref 128 }, { hash := PyData.keyHash P (Str.ofString "shifted_round"), key := Value.str (Str.ofString "shifted_round") 362, val := Value.ref 135 }, { hash := PyData.keyHash P (Str.ofString "with_sticky"), key := Value.str (Str.ofString "with_sticky") 370, val := Value.ref 142 }, { hash := PyData.keyHash P (Str.ofString "rounded"), key := Value.str (Str.ofString "rounded") 382, val := Value.ref 149 }, { hash := PyData.keyHash P (Str.ofString "exact_parts"), key := Value.str (Str.ofString "exact_parts") 389, val := Value.ref 156 }, { hash := PyData.keyHash P (Str.ofString "place_of"), key := Value.str (Str.ofString "place_of") 396, val := Value.ref 163 }, { hash := PyData.keyHash P (Str.ofString "sign_of"), key := Value.str (Str.ofString "sign_of") 403, val := Value.ref 170 }, { hash := PyData.keyHash P (Str.ofString "negative"), key := Value.str (Str.ofString "negative") 410, val := Value.ref 177 }, { hash := PyData.keyHash P (Str.ofString "magnitude"), key := Value.str (Str.ofString "magnitude") 417, val := Value.ref 184 }, { hash := PyData.keyHash P (Str.ofString "same_real"), key := Value.str (Str.ofString "same_real") 425, val := Value.ref 191 }, { hash := PyData.keyHash P (Str.ofString "compare_magnitudes"), key := Value.str (Str.ofString "compare_magnitudes") 434, val := Value.ref 198 }, { hash := PyData.keyHash P (Str.ofString "compare_reals"), key := Value.str (Str.ofString "compare_reals") 442, val := Value.ref 205 }, { hash := PyData.keyHash P (Str.ofString "whole_of"), key := Value.str (Str.ofString "whole_of") 449, val := Value.ref 212 }, { hash := PyData.keyHash P (Str.ofString "floor_real"), key := Value.str (Str.ofString "floor_real") 456, val := Value.ref 219 }, { hash := PyData.keyHash P (Str.ofString "ceiling_real"), key := Value.str (Str.ofString "ceiling_real") 463, val := Value.ref 226 }, { hash := PyData.keyHash P (Str.ofString "truncate_real"), key := Value.str (Str.ofString "truncate_real") 470, val := Value.ref 233 }, { hash := PyData.keyHash P (Str.ofString "round_real"), key := Value.str (Str.ofString "round_real") 477, val := Value.ref 240 }, { hash := PyData.keyHash P (Str.ofString "full_mantissa"), key := Value.str (Str.ofString "full_mantissa") 486, val := Value.ref 247 }, { hash := PyData.keyHash P (Str.ofString "farther"), key := Value.str (Str.ofString "farther") 496, val := Value.ref 254 }, { hash := PyData.keyHash P (Str.ofString "nearer"), key := Value.str (Str.ofString "nearer") 506, val := Value.ref 261 }, { hash := PyData.keyHash P (Str.ofString "above"), key := Value.str (Str.ofString "above") 514, val := Value.ref 268 }, { hash := PyData.keyHash P (Str.ofString "below"), key := Value.str (Str.ofString "below") 522, val := Value.ref 275 }, { hash := PyData.keyHash P (Str.ofString "_law_drawn"), key := Value.str (Str.ofString "_law_drawn") 532, val := Value.ref 282 }, { hash := PyData.keyHash P (Str.ofString "_law_fraction"), key := Value.str (Str.ofString "_law_fraction") 540, val := Value.ref 289 }, { hash := PyData.keyHash P (Str.ofString "_law_gap"), key := Value.str (Str.ofString "_law_gap") 550, val := Value.ref 296 }, { hash := PyData.keyHash P (Str.ofString "_law_is_less"), key := Value.str (Str.ofString "_law_is_less") 558, val := Value.ref 303 }, { hash := PyData.keyHash P (Str.ofString "_law_is_nearest"), key := Value.str (Str.ofString "_law_is_nearest") 571, val := Value.ref 310 }, { hash := PyData.keyHash P (Str.ofString "_law_are_wholes_right"), key := Value.str (Str.ofString "_law_are_wholes_right") 585, val := Value.ref 317 }, { hash := PyData.keyHash P (Str.ofString "law"), key := Value.str (Str.ofString "law") 591, val := Value.ref 322 }]
noncomputable def flds : List Value := [Value.int 2 0, Value.int 0 0, Value.ref 20, Value.int 7 0, Value.int 0 0, Value.ref 40, Value.int 14 0, Value.int 0 0, Value.ref 59, Value.int 21 0, Value.int 0 0, Value.ref 78, Value.int 26 0, Value.int 0 0, Value.ref 99, Value.int 28 0, Value.int 0 0, Value.ref 106, Value.int 30 0, Value.int 0 0, Value.ref 113, Value.int 32 0, Value.int 0 0, Value.ref 120, Value.int 39 0, Value.int 0 0, Value.ref 127, Value.int 44 0, Value.int 0 0, Value.ref 134, Value.int 49 0, Value.int 0 0, Value.ref 141, Value.int 51 0, Value.int 0 0, Value.ref 148, Value.int 60 0, Value.int 0 0, Value.ref 155, Value.int 64 0, Value.int 0 0, Value.ref 162, Value.int 66 0, Value.int 0 0, Value.ref 169, Value.int 68 0, Value.int 0 0, Value.ref 176, Value.int 70 0, Value.int 0 0, Value.ref 183, Value.int 72 0, Value.int 0 0, Value.ref 190, Value.int 74 0, Value.int 0 0, Value.ref 197, Value.int 79 0, Value.int 0 0, Value.ref 204, Value.int 85 0, Value.int 0 0, Value.ref 211, Value.int 87 0, Value.int 0 0, Value.ref 218, Value.int 89 0, Value.int 0 0, Value.ref 225, Value.int 91 0, Value.int 0 0, Value.ref 232, Value.int 93 0, Value.int 0 0, Value.ref 239, Value.int 97 0, Value.int 0 0, Value.ref 246, Value.int 100 0, Value.int 0 0, Value.ref 253, Value.int 103 0, Value.int 0 0, Value.ref 260, Value.int 108 0, Value.int 0 0, Value.ref 267, Value.int 112 0, Value.int 0 0, Value.ref 274, Value.int 115 0, Value.int 0 0, Value.ref 281, Value.int 120 0, Value.int 0 0, Value.ref 288, Value.int 124 0, Value.int 0 0, Value.ref 295, Value.int 127 0, Value.int 0 0, Value.ref 302, Value.int 129 0, Value.int 0 0, Value.ref 309, Value.int 142 0, Value.int 0 0, Value.ref 316, Value.int 150 0, Value.int 0 0, Value.ref 321]
/-- the heap after so many objects: the entries that change on the way are told -/
noncomputable def objsAll (P : Params) (o2 : Obj) (nm : Value) (k c : Nat) (subs : List Value) : List Obj := [PySem.W.boot_o_0 P,
  PySem.W.boot_o_1 P,
  o2,
  { cls := Value.type "dict", data := Data.dict ((ents P nm).take k).toArray k },
  PySem.W.boot_o_4 P,
  PySem.W.boot_o_5 P,
  PySem.W.boot_o_6 P,
  PySem.W.boot_o_7 P,
  PySem.W.boot_o_8 P,
  PySem.W.boot_o_9 P,
  PySem.W.boot_o_10 P,
  { cls := Value.type "tuple", data := Data.seq #[] },
  { cls := Value.none, data := Data.fields (flds.take c).toArray },
  { cls := Value.type "code", data := Data.fields #[Value.str (Str.ofString "<module>") 182, Value.str (Str.ofString "<module>") 183, Value.str (Str.ofString "/claim/cut.py") 184, Value.int 1 0, Value.int 0 0, Value.int 0 0, Value.int 0 0, Value.int 0 0, Value.ref 11, Value.bool false, Value.int 181 0, Value.ref 12, Value.none, Value.none, Value.none, Value.none, Value.int 185 0, Value.int 1 0, Value.str (Str.ofString "/claim/cut.py") 186] },
  { cls := Value.type "frame", slots := #[some (Value.ref 13), some (Value.ref 3), some (Value.ref 3), none, some (Value.str (Str.ofString "__main__") 164), none, some (Value.ref 0)] },
  { cls := Value.type "tuple", data := Data.seq #[Value.type "Exception"] },
  { cls := Value.type "builtin_function_or_method", data := Data.fields #[Value.builtin "type.__prepare__", Value.type "type"] },
  { cls := Value.type "dict", data := Data.dict #[{ hash := PyData.keyHash P (Str.ofString "__module__"), key := Value.str (Str.ofString "__module__") 196, val := Value.str (Str.ofString "scheme.errors") 187 }, { hash := PyData.keyHash P (Str.ofString "__qualname__"), key := Value.str (Str.ofString "__qualname__") 198, val := Value.str (Str.ofString "SchemeError") 197 }, { hash := PyData.keyHash P (Str.ofString "__firstlineno__"), key := Value.str (Str.ofString "__firstlineno__") 200, val := Value.int 2 199 }, { hash := PyData.keyHash P (Str.ofString "__init__"), key := Value.str (Str.ofString "__init__") 209, val := Value.ref 28 }, { hash := PyData.keyHash P (Str.ofString "__static_attributes__"), key := Value.str (Str.ofString "__static_attributes__") 212, val := Value.ref 29 }] 5 },
  { cls := Value.type "tuple", data := Data.seq #[] },
  { cls := Value.none, data := Data.fields #[Value.int 4 0, Value.int 4 0, Value.ref 27] },
  { cls := Value.type "code", data := Data.fields #[Value.str (Str.ofString "SchemeError") 191, Value.str (Str.ofString "SchemeError") 192, Value.str (Str.ofString "/claim/cut.py") 193, Value.int 2 0, Value.int 0 0, Value.int 0 0, Value.int 0 0, Value.int 0 0, Value.ref 18, Value.bool false, Value.int 181 0, Value.ref 19, Value.none, Value.none, Value.none, Value.none, Value.int 194 0, Value.int 2 0, Value.str (Str.ofString "/claim/cut.py") 195] },
  { cls := Value.type "frame", slots := #[some (Value.ref 20), some (Value.ref 3), some (Value.ref 17), none, some (Value.str (Str.ofString "scheme.errors") 187), none, some (Value.ref 0)] },
  { cls := Value.type "tuple", data := Data.seq #[] },
  { cls := Value.none, data := Data.fields #[] },
  { cls := Value.type "tuple", data := Data.seq #[Value.str (Str.ofString "self") 204, Value.str (Str.ofString "word") 205, Value.str (Str.ofString "irritants") 206] },
  { cls := Value.type "tuple", data := Data.seq #[] },
  { cls := Value.none, dict := none, data := .func (fdata (Str.ofString "SchemeError.__init__") 0 (Value.none) (Value.none) 0 (inCls 0 (cells 1))), slots := #[] },
  { cls := Value.type "code", data := Data.fields #[Value.str (Str.ofString "__init__") 201, Value.str (Str.ofString "SchemeError.__init__") 202, Value.str (Str.ofString "/claim/cut.py") 203, Value.int 4 0, Value.int 3 0, Value.int 0 0, Value.int 0 0, Value.int 3 0, Value.ref 22, Value.bool true, Value.int 181 0, Value.ref 23, Value.none, Value.ref 24, Value.ref 25, Value.ref 26, Value.int 207 0, Value.int 4 0, Value.str (Str.ofString "/claim/cut.py") 208] },
  { cls := Value.type "function", dict := none, data := .func (fdata (Str.ofString "SchemeError.__init__") 3 (Value.str (Str.ofString "scheme.errors") 187) (Value.ref 27) 0 (inCls 0 (cells 1))), slots := #[] },
  { cls := Value.type "tuple", data := Data.seq #[Value.str (Str.ofString "irritants") 210, Value.str (Str.ofString "word") 211] },
  { cls := Value.type "dict", data := Data.dict #[{ hash := PyData.keyHash P (Str.ofString "__module__"), key := Value.str (Str.ofString "__module__") 196, val := Value.str (Str.ofString "scheme.errors") 187 }, { hash := PyData.keyHash P (Str.ofString "__firstlineno__"), key := Value.str (Str.ofString "__firstlineno__") 200, val := Value.int 2 199 }, { hash := PyData.keyHash P (Str.ofString "__init__"), key := Value.str (Str.ofString "__init__") 209, val := Value.ref 28 }, { hash := PyData.keyHash P (Str.ofString "__static_attributes__"), key := Value.str (Str.ofString "__static_attributes__") 212, val := Value.ref 29 }, { hash := PyData.keyHash P (Str.ofString "__weakref__"), key := Value.str (Str.ofString "__weakref__") 214, val := Value.ref 32 }, { hash := PyData.keyHash P (Str.ofString "__doc__"), key := Value.str (Str.ofString "__doc__") 215, val := Value.none }] 3 },
  { cls := Value.type "type", data := Data.cls { name := Str.ofString "SchemeError", bases := [Value.type "Exception"], mro := [Value.ref 31, Value.type "Exception", Value.type "BaseException", Value.type "object"], ns := 30, qualname := Str.ofString "SchemeError", subclasses := subs }, slots := #[some (Value.ref 15), none, some (Value.str (Str.ofString "SchemeError") 189), some (Value.str (Str.ofString "SchemeError") 197), some (Value.builtin "Exception.__new__"), some (Value.bool true)] },
  { cls := Value.type "getset_descriptor", data := Data.fields #[Value.str (Str.ofString "__weakref__") 213, Value.ref 31, Value.builtin "ExceptionGroup.__weakref__", Value.none] },
  { cls := Value.type "super", data := Data.fields #[Value.ref 31, Value.ref 31, Value.ref 31] },
  { cls := Value.type "builtin_function_or_method", data := Data.fields #[Value.builtin "object.__init_subclass__", Value.ref 31] },
  { cls := Value.type "tuple", data := Data.seq #[Value.ref 31] },
  { cls := Value.type "builtin_function_or_method", data := Data.fields #[Value.builtin "type.__prepare__", Value.type "type"] },
  { cls := Value.type "dict", data := Data.dict #[{ hash := PyData.keyHash P (Str.ofString "__module__"), key := Value.str (Str.ofString "__module__") 227, val := Value.str (Str.ofString "scheme.errors") 187 }, { hash := PyData.keyHash P (Str.ofString "__qualname__"), key := Value.str (Str.ofString "__qualname__") 229, val := Value.str (Str.ofString "OutOfRange") 228 }, { hash := PyData.keyHash P (Str.ofString "__firstlineno__"), key := Value.str (Str.ofString "__firstlineno__") 231, val := Value.int 7 230 }, { hash := PyData.keyHash P (Str.ofString "__init__"), key := Value.str (Str.ofString "__init__") 241, val := Value.ref 48 }, { hash := PyData.keyHash P (Str.ofString "__static_attributes__"), key := Value.str (Str.ofString "__static_attributes__") 245, val := Value.ref 49 }] 5 },
  { cls := Value.type "tuple", data := Data.seq #[] },
  { cls := Value.none, data := Data.fields #[Value.int 9 0, Value.int 4 0, Value.ref 47] },
  { cls := Value.type "code", data := Data.fields #[Value.str (Str.ofString "OutOfRange") 222, Value.str (Str.ofString "OutOfRange") 223, Value.str (Str.ofString "/claim/cut.py") 224, Value.int 7 0, Value.int 0 0, Value.int 0 0, Value.int 0 0, Value.int 0 0, Value.ref 38, Value.bool false, Value.int 181 0, Value.ref 39, Value.none, Value.none, Value.none, Value.none, Value.int 225 0, Value.int 7 0, Value.str (Str.ofString "/claim/cut.py") 226] },
  { cls := Value.type "frame", slots := #[some (Value.ref 40), some (Value.ref 3), some (Value.ref 37), none, some (Value.str (Str.ofString "scheme.errors") 187), none, some (Value.ref 0)] },
  { cls := Value.type "tuple", data := Data.seq #[] },
  { cls := Value.none, data := Data.fields #[] },
  { cls := Value.type "tuple", data := Data.seq #[Value.str (Str.ofString "self") 235, Value.str (Str.ofString "name") 236, Value.str (Str.ofString "place") 237, Value.str (Str.ofString "datum") 238] },
  { cls := Value.type "tuple", data := Data.seq #[] },
  { cls := Value.none, dict := none, data := .func (fdata (Str.ofString "OutOfRange.__init__") 0 (Value.none) (Value.none) 0 (inCls 0 (cells 2))), slots := #[] },
  { cls := Value.type "code", data := Data.fields #[Value.str (Str.ofString "__init__") 232, Value.str (Str.ofString "OutOfRange.__init__") 233, Value.str (Str.ofString "/claim/cut.py") 234, Value.int 9 0, Value.int 4 0, Value.int 0 0, Value.int 0 0, Value.int 3 0, Value.ref 42, Value.bool true, Value.int 181 0, Value.ref 43, Value.none, Value.ref 44, Value.ref 45, Value.ref 46, Value.int 239 0, Value.int 9 0, Value.str (Str.ofString "/claim/cut.py") 240] },
  { cls := Value.type "function", dict := none, data := .func (fdata (Str.ofString "OutOfRange.__init__") 3 (Value.str (Str.ofString "scheme.errors") 187) (Value.ref 47) 0 (inCls 0 (cells 2))), slots := #[] },
  { cls := Value.type "tuple", data := Data.seq #[Value.str (Str.ofString "datum") 242, Value.str (Str.ofString "name") 243, Value.str (Str.ofString "place") 244] },
  { cls := Value.type "dict", data := Data.dict #[{ hash := PyData.keyHash P (Str.ofString "__module__"), key := Value.str (Str.ofString "__module__") 227, val := Value.str (Str.ofString "scheme.errors") 187 }, { hash := PyData.keyHash P (Str.ofString "__firstlineno__"), key := Value.str (Str.ofString "__firstlineno__") 231, val := Value.int 7 230 }, { hash := PyData.keyHash P (Str.ofString "__init__"), key := Value.str (Str.ofString "__init__") 241, val := Value.ref 48 }, { hash := PyData.keyHash P (Str.ofString "__static_attributes__"), key := Value.str (Str.ofString "__static_attributes__") 245, val := Value.ref 49 }, { hash := PyData.keyHash P (Str.ofString "__doc__"), key := Value.str (Str.ofString "__doc__") 246, val := Value.none }] 2 },
  { cls := Value.type "type", data := Data.cls { name := Str.ofString "OutOfRange", bases := [Value.ref 31], mro := [Value.ref 51, Value.ref 31, Value.type "Exception", Value.type "BaseException", Value.type "object"], ns := 50, qualname := Str.ofString "OutOfRange" }, slots := #[some (Value.ref 35), none, some (Value.str (Str.ofString "OutOfRange") 220), some (Value.str (Str.ofString "OutOfRange") 228), some (Value.builtin "Exception.__new__"), some (Value.bool true)] },
  { cls := Value.type "super", data := Data.fields #[Value.ref 51, Value.ref 51, Value.ref 51] },
  { cls := Value.type "builtin_function_or_method", data := Data.fields #[Value.builtin "object.__init_subclass__", Value.ref 51] },
  { cls := Value.type "tuple", data := Data.seq #[Value.ref 31] },
  { cls := Value.type "builtin_function_or_method", data := Data.fields #[Value.builtin "type.__prepare__", Value.type "type"] },
  { cls := Value.type "dict", data := Data.dict #[{ hash := PyData.keyHash P (Str.ofString "__module__"), key := Value.str (Str.ofString "__module__") 256, val := Value.str (Str.ofString "scheme.errors") 187 }, { hash := PyData.keyHash P (Str.ofString "__qualname__"), key := Value.str (Str.ofString "__qualname__") 258, val := Value.str (Str.ofString "OutOfDomain") 257 }, { hash := PyData.keyHash P (Str.ofString "__firstlineno__"), key := Value.str (Str.ofString "__firstlineno__") 260, val := Value.int 14 259 }, { hash := PyData.keyHash P (Str.ofString "__init__"), key := Value.str (Str.ofString "__init__") 268, val := Value.ref 67 }, { hash := PyData.keyHash P (Str.ofString "__static_attributes__"), key := Value.str (Str.ofString "__static_attributes__") 270, val := Value.ref 68 }] 5 },
  { cls := Value.type "tuple", data := Data.seq #[] },
  { cls := Value.none, data := Data.fields #[Value.int 16 0, Value.int 4 0, Value.ref 66] },
  { cls := Value.type "code", data := Data.fields #[Value.str (Str.ofString "OutOfDomain") 251, Value.str (Str.ofString "OutOfDomain") 252, Value.str (Str.ofString "/claim/cut.py") 253, Value.int 14 0, Value.int 0 0, Value.int 0 0, Value.int 0 0, Value.int 0 0, Value.ref 57, Value.bool false, Value.int 181 0, Value.ref 58, Value.none, Value.none, Value.none, Value.none, Value.int 254 0, Value.int 14 0, Value.str (Str.ofString "/claim/cut.py") 255] },
  { cls := Value.type "frame", slots := #[some (Value.ref 59), some (Value.ref 3), some (Value.ref 56), none, some (Value.str (Str.ofString "scheme.errors") 187), none, some (Value.ref 0)] },
  { cls := Value.type "tuple", data := Data.seq #[] },
  { cls := Value.none, data := Data.fields #[] },
  { cls := Value.type "tuple", data := Data.seq #[Value.str (Str.ofString "self") 264, Value.str (Str.ofString "name") 265] },
  { cls := Value.type "tuple", data := Data.seq #[] },
  { cls := Value.none, dict := none, data := .func (fdata (Str.ofString "OutOfDomain.__init__") 0 (Value.none) (Value.none) 0 (inCls 0 (cells 3))), slots := #[] },
  { cls := Value.type "code", data := Data.fields #[Value.str (Str.ofString "__init__") 261, Value.str (Str.ofString "OutOfDomain.__init__") 262, Value.str (Str.ofString "/claim/cut.py") 263, Value.int 16 0, Value.int 2 0, Value.int 0 0, Value.int 0 0, Value.int 3 0, Value.ref 61, Value.bool true, Value.int 181 0, Value.ref 62, Value.none, Value.ref 63, Value.ref 64, Value.ref 65, Value.int 266 0, Value.int 16 0, Value.str (Str.ofString "/claim/cut.py") 267] },
  { cls := Value.type "function", dict := none, data := .func (fdata (Str.ofString "OutOfDomain.__init__") 3 (Value.str (Str.ofString "scheme.errors") 187) (Value.ref 66) 0 (inCls 0 (cells 3))), slots := #[] },
  { cls := Value.type "tuple", data := Data.seq #[Value.str (Str.ofString "name") 269] },
  { cls := Value.type "dict", data := Data.dict #[{ hash := PyData.keyHash P (Str.ofString "__module__"), key := Value.str (Str.ofString "__module__") 256, val := Value.str (Str.ofString "scheme.errors") 187 }, { hash := PyData.keyHash P (Str.ofString "__firstlineno__"), key := Value.str (Str.ofString "__firstlineno__") 260, val := Value.int 14 259 }, { hash := PyData.keyHash P (Str.ofString "__init__"), key := Value.str (Str.ofString "__init__") 268, val := Value.ref 67 }, { hash := PyData.keyHash P (Str.ofString "__static_attributes__"), key := Value.str (Str.ofString "__static_attributes__") 270, val := Value.ref 68 }, { hash := PyData.keyHash P (Str.ofString "__doc__"), key := Value.str (Str.ofString "__doc__") 271, val := Value.none }] 2 },
  { cls := Value.type "type", data := Data.cls { name := Str.ofString "OutOfDomain", bases := [Value.ref 31], mro := [Value.ref 70, Value.ref 31, Value.type "Exception", Value.type "BaseException", Value.type "object"], ns := 69, qualname := Str.ofString "OutOfDomain" }, slots := #[some (Value.ref 54), none, some (Value.str (Str.ofString "OutOfDomain") 249), some (Value.str (Str.ofString "OutOfDomain") 257), some (Value.builtin "Exception.__new__"), some (Value.bool true)] },
  { cls := Value.type "super", data := Data.fields #[Value.ref 70, Value.ref 70, Value.ref 70] },
  { cls := Value.type "builtin_function_or_method", data := Data.fields #[Value.builtin "object.__init_subclass__", Value.ref 70] },
  { cls := Value.type "tuple", data := Data.seq #[] },
  { cls := Value.type "builtin_function_or_method", data := Data.fields #[Value.builtin "type.__prepare__", Value.type "type"] },
  { cls := Value.type "dict", data := Data.dict #[{ hash := PyData.keyHash P (Str.ofString "__module__"), key := Value.str (Str.ofString "__module__") 287, val := Value.str (Str.ofString "scheme.binary") 274 }, { hash := PyData.keyHash P (Str.ofString "__qualname__"), key := Value.str (Str.ofString "__qualname__") 289, val := Value.str (Str.ofString "Real") 288 }, { hash := PyData.keyHash P (Str.ofString "__firstlineno__"), key := Value.str (Str.ofString "__firstlineno__") 291, val := Value.int 21 290 }, { hash := PyData.keyHash P (Str.ofString "__init__"), key := Value.str (Str.ofString "__init__") 300, val := Value.ref 86 }, { hash := PyData.keyHash P (Str.ofString "__static_attributes__"), key := Value.str (Str.ofString "__static_attributes__") 303, val := Value.ref 87 }] 5 },
  { cls := Value.type "tuple", data := Data.seq #[] },
  { cls := Value.none, data := Data.fields #[Value.int 23 0, Value.int 4 0, Value.ref 85] },
  { cls := Value.type "code", data := Data.fields #[Value.str (Str.ofString "Real") 282, Value.str (Str.ofString "Real") 283, Value.str (Str.ofString "/claim/cut.py") 284, Value.int 21 0, Value.int 0 0, Value.int 0 0, Value.int 0 0, Value.int 0 0, Value.ref 76, Value.bool false, Value.int 181 0, Value.ref 77, Value.none, Value.none, Value.none, Value.none, Value.int 285 0, Value.int 21 0, Value.str (Str.ofString "/claim/cut.py") 286] },
  { cls := Value.type "frame", slots := #[some (Value.ref 78), some (Value.ref 3), some (Value.ref 75), none, some (Value.str (Str.ofString "scheme.binary") 274), none, some (Value.ref 0)] },
  { cls := Value.type "tuple", data := Data.seq #[] },
  { cls := Value.none, data := Data.fields #[] },
  { cls := Value.type "tuple", data := Data.seq #[Value.str (Str.ofString "self") 295, Value.str (Str.ofString "mantissa") 296, Value.str (Str.ofString "exponent") 297] },
  { cls := Value.type "tuple", data := Data.seq #[] },
  { cls := Value.none, dict := none, data := .func (fdata (Str.ofString "Real.__init__") 0 (Value.none) (Value.none) 0 (inCls 0 (cells 6))), slots := #[] },
  { cls := Value.type "code", data := Data.fields #[Value.str (Str.ofString "__init__") 292, Value.str (Str.ofString "Real.__init__") 293, Value.str (Str.ofString "/claim/cut.py") 294, Value.int 23 0, Value.int 3 0, Value.int 0 0, Value.int 0 0, Value.int 3 0, Value.ref 80, Value.bool true, Value.int 181 0, Value.ref 81, Value.none, Value.ref 82, Value.ref 83, Value.ref 84, Value.int 298 0, Value.int 23 0, Value.str (Str.ofString "/claim/cut.py") 299] },
  { cls := Value.type "function", dict := none, data := .func (fdata (Str.ofString "Real.__init__") 3 (Value.str (Str.ofString "scheme.binary") 274) (Value.ref 85) 0 (inCls 0 (cells 6))), slots := #[] },
  { cls := Value.type "tuple", data := Data.seq #[Value.str (Str.ofString "exponent") 301, Value.str (Str.ofString "mantissa") 302] },
  { cls := Value.type "dict", data := Data.dict #[{ hash := PyData.keyHash P (Str.ofString "__module__"), key := Value.str (Str.ofString "__module__") 287, val := Value.str (Str.ofString "scheme.binary") 274 }, { hash := PyData.keyHash P (Str.ofString "__firstlineno__"), key := Value.str (Str.ofString "__firstlineno__") 291, val := Value.int 21 290 }, { hash := PyData.keyHash P (Str.ofString "__init__"), key := Value.str (Str.ofString "__init__") 300, val := Value.ref 86 }, { hash := PyData.keyHash P (Str.ofString "__static_attributes__"), key := Value.str (Str.ofString "__static_attributes__") 303, val := Value.ref 87 }, { hash := PyData.keyHash P (Str.ofString "__dict__"), key := Value.str (Str.ofString "__dict__") 305, val := Value.ref 90 }, { hash := PyData.keyHash P (Str.ofString "__weakref__"), key := Value.str (Str.ofString "__weakref__") 307, val := Value.ref 91 }, { hash := PyData.keyHash P (Str.ofString "__doc__"), key := Value.str (Str.ofString "__doc__") 308, val := Value.none }] 4 },
  { cls := Value.type "type", data := Data.cls { name := Str.ofString "Real", bases := [Value.type "object"], mro := [Value.ref 89, Value.type "object"], ns := 88, qualname := Str.ofString "Real" }, slots := #[none, none, some (Value.str (Str.ofString "Real") 280), some (Value.str (Str.ofString "Real") 288), some (Value.builtin "object.__new__"), some (Value.bool true)] },
  { cls := Value.type "getset_descriptor", data := Data.fields #[Value.str (Str.ofString "__dict__") 304, Value.ref 89, Value.builtin "function.__dict__", Value.builtin "function.__dict__#set"] },
  { cls := Value.type "getset_descriptor", data := Data.fields #[Value.str (Str.ofString "__weakref__") 306, Value.ref 89, Value.builtin "ExceptionGroup.__weakref__", Value.none] },
  { cls := Value.type "super", data := Data.fields #[Value.ref 89, Value.ref 89, Value.ref 89] },
  { cls := Value.type "builtin_function_or_method", data := Data.fields #[Value.builtin "object.__init_subclass__", Value.ref 89] },
  { cls := Value.type "tuple", data := Data.seq #[] },
  { cls := Value.none, data := Data.fields #[] },
  { cls := Value.type "tuple", data := Data.seq #[Value.str (Str.ofString "number") 314] },
  { cls := Value.type "tuple", data := Data.seq #[] },
  { cls := Value.none, dict := none, data := .func (fdata (Str.ofString "size_of") 0 (Value.none) (Value.none) 0 (cells 7)), slots := #[] },
  { cls := Value.type "code", data := Data.fields #[Value.str (Str.ofString "size_of") 311, Value.str (Str.ofString "size_of") 312, Value.str (Str.ofString "/claim/cut.py") 313, Value.int 26 0, Value.int 1 0, Value.int 0 0, Value.int 0 0, Value.int 3 0, Value.ref 94, Value.bool true, Value.int 181 0, Value.ref 95, Value.none, Value.ref 96, Value.ref 97, Value.ref 98, Value.int 315 0, Value.int 26 0, Value.str (Str.ofString "/claim/cut.py") 316] },
  { cls := Value.type "function", dict := none, data := .func (fdata (Str.ofString "size_of") 3 (Value.str (Str.ofString "scheme.binary") 274) (Value.ref 99) 0 (cells 7)), slots := #[] },
  { cls := Value.type "tuple", data := Data.seq #[] },
  { cls := Value.none, data := Data.fields #[] },
  { cls := Value.type "tuple", data := Data.seq #[Value.str (Str.ofString "number") 321] },
  { cls := Value.type "tuple", data := Data.seq #[] },
  { cls := Value.none, dict := none, data := .func (fdata (Str.ofString "sign_of_whole") 0 (Value.none) (Value.none) 0 (cells 8)), slots := #[] },
  { cls := Value.type "code", data := Data.fields #[Value.str (Str.ofString "sign_of_whole") 318, Value.str (Str.ofString "sign_of_whole") 319, Value.str (Str.ofString "/claim/cut.py") 320, Value.int 28 0, Value.int 1 0, Value.int 0 0, Value.int 0 0, Value.int 3 0, Value.ref 101, Value.bool true, Value.int 181 0, Value.ref 102, Value.none, Value.ref 103, Value.ref 104, Value.ref 105, Value.int 322 0, Value.int 28 0, Value.str (Str.ofString "/claim/cut.py") 323] },
  { cls := Value.type "function", dict := none, data := .func (fdata (Str.ofString "sign_of_whole") 3 (Value.str (Str.ofString "scheme.binary") 274) (Value.ref 106) 0 (cells 8)), slots := #[] },
  { cls := Value.type "tuple", data := Data.seq #[] },
  { cls := Value.none, data := Data.fields #[] },
  { cls := Value.type "tuple", data := Data.seq #[Value.str (Str.ofString "number") 328] },
  { cls := Value.type "tuple", data := Data.seq #[] },
  { cls := Value.none, dict := none, data := .func (fdata (Str.ofString "zeros_below") 0 (Value.none) (Value.none) 0 (cells 9)), slots := #[] },
  { cls := Value.type "code", data := Data.fields #[Value.str (Str.ofString "zeros_below") 325, Value.str (Str.ofString "zeros_below") 326, Value.str (Str.ofString "/claim/cut.py") 327, Value.int 30 0, Value.int 1 0, Value.int 0 0, Value.int 0 0, Value.int 3 0, Value.ref 108, Value.bool true, Value.int 181 0, Value.ref 109, Value.none, Value.ref 110, Value.ref 111, Value.ref 112, Value.int 329 0, Value.int 30 0, Value.str (Str.ofString "/claim/cut.py") 330] },
  { cls := Value.type "function", dict := none, data := .func (fdata (Str.ofString "zeros_below") 3 (Value.str (Str.ofString "scheme.binary") 274) (Value.ref 113) 0 (cells 9)), slots := #[] },
  { cls := Value.type "tuple", data := Data.seq #[] },
  { cls := Value.none, data := Data.fields #[] },
  { cls := Value.type "tuple", data := Data.seq #[Value.str (Str.ofString "mantissa") 335, Value.str (Str.ofString "exponent") 336, Value.str (Str.ofString "gone") 337, Value.str (Str.ofString "place") 338] },
  { cls := Value.type "tuple", data := Data.seq #[] },
  { cls := Value.none, dict := none, data := .func (fdata (Str.ofString "lean") 0 (Value.none) (Value.none) 0 (cells 10)), slots := #[] },
  { cls := Value.type "code", data := Data.fields #[Value.str (Str.ofString "lean") 332, Value.str (Str.ofString "lean") 333, Value.str (Str.ofString "/claim/cut.py") 334, Value.int 32 0, Value.int 2 0, Value.int 0 0, Value.int 0 0, Value.int 3 0, Value.ref 115, Value.bool true, Value.int 181 0, Value.ref 116, Value.none, Value.ref 117, Value.ref 118, Value.ref 119, Value.int 339 0, Value.int 32 0, Value.str (Str.ofString "/claim/cut.py") 340] },
  { cls := Value.type "function", dict := none, data := .func (fdata (Str.ofString "lean") 3 (Value.str (Str.ofString "scheme.binary") 274) (Value.ref 120) 0 (cells 10)), slots := #[] },
  { cls := Value.type "tuple", data := Data.seq #[] },
  { cls := Value.none, data := Data.fields #[] },
  { cls := Value.type "tuple", data := Data.seq #[Value.str (Str.ofString "number") 345, Value.str (Str.ofString "gone") 346, Value.str (Str.ofString "kept") 347, Value.str (Str.ofString "rest") 348, Value.str (Str.ofString "half") 349] },
  { cls := Value.type "tuple", data := Data.seq #[] },
  { cls := Value.none, dict := none, data := .func (fdata (Str.ofString "nearest_shift") 0 (Value.none) (Value.none) 0 (cells 11)), slots := #[] },
  { cls := Value.type "code", data := Data.fields #[Value.str (Str.ofString "nearest_shift") 342, Value.str (Str.ofString "nearest_shift") 343, Value.str (Str.ofString "/claim/cut.py") 344, Value.int 39 0, Value.int 2 0, Value.int 0 0, Value.int 0 0, Value.int 3 0, Value.ref 122, Value.bool true, Value.int 181 0, Value.ref 123, Value.none, Value.ref 124, Value.ref 125, Value.ref 126, Value.int 350 0, Value.int 39 0, Value.str (Str.ofString "/claim/cut.py") 351] },
  { cls := Value.type "function", dict := none, data := .func (fdata (Str.ofString "nearest_shift") 3 (Value.str (Str.ofString "scheme.binary") 274) (Value.ref 127) 0 (cells 11)), slots := #[] },
  { cls := Value.type "tuple", data := Data.seq #[] },
  { cls := Value.none, data := Data.fields #[] },
  { cls := Value.type "tuple", data := Data.seq #[Value.str (Str.ofString "precision") 356, Value.str (Str.ofString "mantissa") 357, Value.str (Str.ofString "exponent") 358, Value.str (Str.ofString "gone") 359] },
  { cls := Value.type "tuple", data := Data.seq #[] },
  { cls := Value.none, dict := none, data := .func (fdata (Str.ofString "shifted_round") 0 (Value.none) (Value.none) 0 (cells 12)), slots := #[] },
  { cls := Value.type "code", data := Data.fields #[Value.str (Str.ofString "shifted_round") 353, Value.str (Str.ofString "shifted_round") 354, Value.str (Str.ofString "/claim/cut.py") 355, Value.int 44 0, Value.int 3 0, Value.int 0 0, Value.int 0 0, Value.int 3 0, Value.ref 129, Value.bool true, Value.int 181 0, Value.ref 130, Value.none, Value.ref 131, Value.ref 132, Value.ref 133, Value.int 360 0, Value.int 44 0, Value.str (Str.ofString "/claim/cut.py") 361] },
  { cls := Value.type "function", dict := none, data := .func (fdata (Str.ofString "shifted_round") 3 (Value.str (Str.ofString "scheme.binary") 274) (Value.ref 134) 0 (cells 12)), slots := #[] },
  { cls := Value.type "tuple", data := Data.seq #[] },
  { cls := Value.none, data := Data.fields #[] },
  { cls := Value.type "tuple", data := Data.seq #[Value.str (Str.ofString "number") 366, Value.str (Str.ofString "is_more") 367] },
  { cls := Value.type "tuple", data := Data.seq #[] },
  { cls := Value.none, dict := none, data := .func (fdata (Str.ofString "with_sticky") 0 (Value.none) (Value.none) 0 (cells 13)), slots := #[] },
  { cls := Value.type "code", data := Data.fields #[Value.str (Str.ofString "with_sticky") 363, Value.str (Str.ofString "with_sticky") 364, Value.str (Str.ofString "/claim/cut.py") 365, Value.int 49 0, Value.int 2 0, Value.int 0 0, Value.int 0 0, Value.int 3 0, Value.ref 136, Value.bool true, Value.int 181 0, Value.ref 137, Value.none, Value.ref 138, Value.ref 139, Value.ref 140, Value.int 368 0, Value.int 49 0, Value.str (Str.ofString "/claim/cut.py") 369] },
  { cls := Value.type "function", dict := none, data := .func (fdata (Str.ofString "with_sticky") 3 (Value.str (Str.ofString "scheme.binary") 274) (Value.ref 141) 0 (cells 13)), slots := #[] },
  { cls := Value.type "tuple", data := Data.seq #[] },
  { cls := Value.none, data := Data.fields #[] },
  { cls := Value.type "tuple", data := Data.seq #[Value.str (Str.ofString "precision") 374, Value.str (Str.ofString "top") 375, Value.str (Str.ofString "bottom") 376, Value.str (Str.ofString "shift") 377, Value.str (Str.ofString "kept") 378, Value.str (Str.ofString "rest") 379] },
  { cls := Value.type "tuple", data := Data.seq #[] },
  { cls := Value.none, dict := none, data := .func (fdata (Str.ofString "rounded") 0 (Value.none) (Value.none) 0 (cells 14)), slots := #[] },
  { cls := Value.type "code", data := Data.fields #[Value.str (Str.ofString "rounded") 371, Value.str (Str.ofString "rounded") 372, Value.str (Str.ofString "/claim/cut.py") 373, Value.int 51 0, Value.int 3 0, Value.int 0 0, Value.int 0 0, Value.int 3 0, Value.ref 143, Value.bool true, Value.int 181 0, Value.ref 144, Value.none, Value.ref 145, Value.ref 146, Value.ref 147, Value.int 380 0, Value.int 51 0, Value.str (Str.ofString "/claim/cut.py") 381] },
  { cls := Value.type "function", dict := none, data := .func (fdata (Str.ofString "rounded") 3 (Value.str (Str.ofString "scheme.binary") 274) (Value.ref 148) 0 (cells 14)), slots := #[] },
  { cls := Value.type "tuple", data := Data.seq #[] },
  { cls := Value.none, data := Data.fields #[] },
  { cls := Value.type "tuple", data := Data.seq #[Value.str (Str.ofString "real") 386] },
  { cls := Value.type "tuple", data := Data.seq #[] },
  { cls := Value.none, dict := none, data := .func (fdata (Str.ofString "exact_parts") 0 (Value.none) (Value.none) 0 (cells 15)), slots := #[] },
  { cls := Value.type "code", data := Data.fields #[Value.str (Str.ofString "exact_parts") 383, Value.str (Str.ofString "exact_parts") 384, Value.str (Str.ofString "/claim/cut.py") 385, Value.int 60 0, Value.int 1 0, Value.int 0 0, Value.int 0 0, Value.int 3 0, Value.ref 150, Value.bool true, Value.int 181 0, Value.ref 151, Value.none, Value.ref 152, Value.ref 153, Value.ref 154, Value.int 387 0, Value.int 60 0, Value.str (Str.ofString "/claim/cut.py") 388] },
  { cls := Value.type "function", dict := none, data := .func (fdata (Str.ofString "exact_parts") 3 (Value.str (Str.ofString "scheme.binary") 274) (Value.ref 155) 0 (cells 15)), slots := #[] },
  { cls := Value.type "tuple", data := Data.seq #[] },
  { cls := Value.none, data := Data.fields #[] },
  { cls := Value.type "tuple", data := Data.seq #[Value.str (Str.ofString "real") 393] },
  { cls := Value.type "tuple", data := Data.seq #[] },
  { cls := Value.none, dict := none, data := .func (fdata (Str.ofString "place_of") 0 (Value.none) (Value.none) 0 (cells 16)), slots := #[] },
  { cls := Value.type "code", data := Data.fields #[Value.str (Str.ofString "place_of") 390, Value.str (Str.ofString "place_of") 391, Value.str (Str.ofString "/claim/cut.py") 392, Value.int 64 0, Value.int 1 0, Value.int 0 0, Value.int 0 0, Value.int 3 0, Value.ref 157, Value.bool true, Value.int 181 0, Value.ref 158, Value.none, Value.ref 159, Value.ref 160, Value.ref 161, Value.int 394 0, Value.int 64 0, Value.str (Str.ofString "/claim/cut.py") 395] },
  { cls := Value.type "function", dict := none, data := .func (fdata (Str.ofString "place_of") 3 (Value.str (Str.ofString "scheme.binary") 274) (Value.ref 162) 0 (cells 16)), slots := #[] },
  { cls := Value.type "tuple", data := Data.seq #[] },
  { cls := Value.none, data := Data.fields #[] },
  { cls := Value.type "tuple", data := Data.seq #[Value.str (Str.ofString "real") 400] },
  { cls := Value.type "tuple", data := Data.seq #[] },
  { cls := Value.none, dict := none, data := .func (fdata (Str.ofString "sign_of") 0 (Value.none) (Value.none) 0 (cells 17)), slots := #[] },
  { cls := Value.type "code", data := Data.fields #[Value.str (Str.ofString "sign_of") 397, Value.str (Str.ofString "sign_of") 398, Value.str (Str.ofString "/claim/cut.py") 399, Value.int 66 0, Value.int 1 0, Value.int 0 0, Value.int 0 0, Value.int 3 0, Value.ref 164, Value.bool true, Value.int 181 0, Value.ref 165, Value.none, Value.ref 166, Value.ref 167, Value.ref 168, Value.int 401 0, Value.int 66 0, Value.str (Str.ofString "/claim/cut.py") 402] },
  { cls := Value.type "function", dict := none, data := .func (fdata (Str.ofString "sign_of") 3 (Value.str (Str.ofString "scheme.binary") 274) (Value.ref 169) 0 (cells 17)), slots := #[] },
  { cls := Value.type "tuple", data := Data.seq #[] },
  { cls := Value.none, data := Data.fields #[] },
  { cls := Value.type "tuple", data := Data.seq #[Value.str (Str.ofString "real") 407] },
  { cls := Value.type "tuple", data := Data.seq #[] },
  { cls := Value.none, dict := none, data := .func (fdata (Str.ofString "negative") 0 (Value.none) (Value.none) 0 (cells 18)), slots := #[] },
  { cls := Value.type "code", data := Data.fields #[Value.str (Str.ofString "negative") 404, Value.str (Str.ofString "negative") 405, Value.str (Str.ofString "/claim/cut.py") 406, Value.int 68 0, Value.int 1 0, Value.int 0 0, Value.int 0 0, Value.int 3 0, Value.ref 171, Value.bool true, Value.int 181 0, Value.ref 172, Value.none, Value.ref 173, Value.ref 174, Value.ref 175, Value.int 408 0, Value.int 68 0, Value.str (Str.ofString "/claim/cut.py") 409] },
  { cls := Value.type "function", dict := none, data := .func (fdata (Str.ofString "negative") 3 (Value.str (Str.ofString "scheme.binary") 274) (Value.ref 176) 0 (cells 18)), slots := #[] },
  { cls := Value.type "tuple", data := Data.seq #[] },
  { cls := Value.none, data := Data.fields #[] },
  { cls := Value.type "tuple", data := Data.seq #[Value.str (Str.ofString "real") 414] },
  { cls := Value.type "tuple", data := Data.seq #[] },
  { cls := Value.none, dict := none, data := .func (fdata (Str.ofString "magnitude") 0 (Value.none) (Value.none) 0 (cells 19)), slots := #[] },
  { cls := Value.type "code", data := Data.fields #[Value.str (Str.ofString "magnitude") 411, Value.str (Str.ofString "magnitude") 412, Value.str (Str.ofString "/claim/cut.py") 413, Value.int 70 0, Value.int 1 0, Value.int 0 0, Value.int 0 0, Value.int 3 0, Value.ref 178, Value.bool true, Value.int 181 0, Value.ref 179, Value.none, Value.ref 180, Value.ref 181, Value.ref 182, Value.int 415 0, Value.int 70 0, Value.str (Str.ofString "/claim/cut.py") 416] },
  { cls := Value.type "function", dict := none, data := .func (fdata (Str.ofString "magnitude") 3 (Value.str (Str.ofString "scheme.binary") 274) (Value.ref 183) 0 (cells 19)), slots := #[] },
  { cls := Value.type "tuple", data := Data.seq #[] },
  { cls := Value.none, data := Data.fields #[] },
  { cls := Value.type "tuple", data := Data.seq #[Value.str (Str.ofString "one") 421, Value.str (Str.ofString "other") 422] },
  { cls := Value.type "tuple", data := Data.seq #[] },
  { cls := Value.none, dict := none, data := .func (fdata (Str.ofString "same_real") 0 (Value.none) (Value.none) 0 (cells 20)), slots := #[] },
  { cls := Value.type "code", data := Data.fields #[Value.str (Str.ofString "same_real") 418, Value.str (Str.ofString "same_real") 419, Value.str (Str.ofString "/claim/cut.py") 420, Value.int 72 0, Value.int 2 0, Value.int 0 0, Value.int 0 0, Value.int 3 0, Value.ref 185, Value.bool true, Value.int 181 0, Value.ref 186, Value.none, Value.ref 187, Value.ref 188, Value.ref 189, Value.int 423 0, Value.int 72 0, Value.str (Str.ofString "/claim/cut.py") 424] },
  { cls := Value.type "function", dict := none, data := .func (fdata (Str.ofString "same_real") 3 (Value.str (Str.ofString "scheme.binary") 274) (Value.ref 190) 0 (cells 20)), slots := #[] },
  { cls := Value.type "tuple", data := Data.seq #[] },
  { cls := Value.none, data := Data.fields #[] },
  { cls := Value.type "tuple", data := Data.seq #[Value.str (Str.ofString "one") 429, Value.str (Str.ofString "other") 430, Value.str (Str.ofString "low") 431] },
  { cls := Value.type "tuple", data := Data.seq #[] },
  { cls := Value.none, dict := none, data := .func (fdata (Str.ofString "compare_magnitudes") 0 (Value.none) (Value.none) 0 (cells 21)), slots := #[] },
  { cls := Value.type "code", data := Data.fields #[Value.str (Str.ofString "compare_magnitudes") 426, Value.str (Str.ofString "compare_magnitudes") 427, Value.str (Str.ofString "/claim/cut.py") 428, Value.int 74 0, Value.int 2 0, Value.int 0 0, Value.int 0 0, Value.int 3 0, Value.ref 192, Value.bool true, Value.int 181 0, Value.ref 193, Value.none, Value.ref 194, Value.ref 195, Value.ref 196, Value.int 432 0, Value.int 74 0, Value.str (Str.ofString "/claim/cut.py") 433] },
  { cls := Value.type "function", dict := none, data := .func (fdata (Str.ofString "compare_magnitudes") 3 (Value.str (Str.ofString "scheme.binary") 274) (Value.ref 197) 0 (cells 21)), slots := #[] },
  { cls := Value.type "tuple", data := Data.seq #[] },
  { cls := Value.none, data := Data.fields #[] },
  { cls := Value.type "tuple", data := Data.seq #[Value.str (Str.ofString "one") 438, Value.str (Str.ofString "other") 439] },
  { cls := Value.type "tuple", data := Data.seq #[] },
  { cls := Value.none, dict := none, data := .func (fdata (Str.ofString "compare_reals") 0 (Value.none) (Value.none) 0 (cells 22)), slots := #[] },
  { cls := Value.type "code", data := Data.fields #[Value.str (Str.ofString "compare_reals") 435, Value.str (Str.ofString "compare_reals") 436, Value.str (Str.ofString "/claim/cut.py") 437, Value.int 79 0, Value.int 2 0, Value.int 0 0, Value.int 0 0, Value.int 3 0, Value.ref 199, Value.bool true, Value.int 181 0, Value.ref 200, Value.none, Value.ref 201, Value.ref 202, Value.ref 203, Value.int 440 0, Value.int 79 0, Value.str (Str.ofString "/claim/cut.py") 441] },
  { cls := Value.type "function", dict := none, data := .func (fdata (Str.ofString "compare_reals") 3 (Value.str (Str.ofString "scheme.binary") 274) (Value.ref 204) 0 (cells 22)), slots := #[] },
  { cls := Value.type "tuple", data := Data.seq #[] },
  { cls := Value.none, data := Data.fields #[] },
  { cls := Value.type "tuple", data := Data.seq #[Value.str (Str.ofString "real") 446] },
  { cls := Value.type "tuple", data := Data.seq #[] },
  { cls := Value.none, dict := none, data := .func (fdata (Str.ofString "whole_of") 0 (Value.none) (Value.none) 0 (cells 23)), slots := #[] },
  { cls := Value.type "code", data := Data.fields #[Value.str (Str.ofString "whole_of") 443, Value.str (Str.ofString "whole_of") 444, Value.str (Str.ofString "/claim/cut.py") 445, Value.int 85 0, Value.int 1 0, Value.int 0 0, Value.int 0 0, Value.int 3 0, Value.ref 206, Value.bool true, Value.int 181 0, Value.ref 207, Value.none, Value.ref 208, Value.ref 209, Value.ref 210, Value.int 447 0, Value.int 85 0, Value.str (Str.ofString "/claim/cut.py") 448] },
  { cls := Value.type "function", dict := none, data := .func (fdata (Str.ofString "whole_of") 3 (Value.str (Str.ofString "scheme.binary") 274) (Value.ref 211) 0 (cells 23)), slots := #[] },
  { cls := Value.type "tuple", data := Data.seq #[] },
  { cls := Value.none, data := Data.fields #[] },
  { cls := Value.type "tuple", data := Data.seq #[Value.str (Str.ofString "real") 453] },
  { cls := Value.type "tuple", data := Data.seq #[] },
  { cls := Value.none, dict := none, data := .func (fdata (Str.ofString "floor_real") 0 (Value.none) (Value.none) 0 (cells 24)), slots := #[] },
  { cls := Value.type "code", data := Data.fields #[Value.str (Str.ofString "floor_real") 450, Value.str (Str.ofString "floor_real") 451, Value.str (Str.ofString "/claim/cut.py") 452, Value.int 87 0, Value.int 1 0, Value.int 0 0, Value.int 0 0, Value.int 3 0, Value.ref 213, Value.bool true, Value.int 181 0, Value.ref 214, Value.none, Value.ref 215, Value.ref 216, Value.ref 217, Value.int 454 0, Value.int 87 0, Value.str (Str.ofString "/claim/cut.py") 455] },
  { cls := Value.type "function", dict := none, data := .func (fdata (Str.ofString "floor_real") 3 (Value.str (Str.ofString "scheme.binary") 274) (Value.ref 218) 0 (cells 24)), slots := #[] },
  { cls := Value.type "tuple", data := Data.seq #[] },
  { cls := Value.none, data := Data.fields #[] },
  { cls := Value.type "tuple", data := Data.seq #[Value.str (Str.ofString "real") 460] },
  { cls := Value.type "tuple", data := Data.seq #[] },
  { cls := Value.none, dict := none, data := .func (fdata (Str.ofString "ceiling_real") 0 (Value.none) (Value.none) 0 (cells 25)), slots := #[] },
  { cls := Value.type "code", data := Data.fields #[Value.str (Str.ofString "ceiling_real") 457, Value.str (Str.ofString "ceiling_real") 458, Value.str (Str.ofString "/claim/cut.py") 459, Value.int 89 0, Value.int 1 0, Value.int 0 0, Value.int 0 0, Value.int 3 0, Value.ref 220, Value.bool true, Value.int 181 0, Value.ref 221, Value.none, Value.ref 222, Value.ref 223, Value.ref 224, Value.int 461 0, Value.int 89 0, Value.str (Str.ofString "/claim/cut.py") 462] },
  { cls := Value.type "function", dict := none, data := .func (fdata (Str.ofString "ceiling_real") 3 (Value.str (Str.ofString "scheme.binary") 274) (Value.ref 225) 0 (cells 25)), slots := #[] },
  { cls := Value.type "tuple", data := Data.seq #[] },
  { cls := Value.none, data := Data.fields #[] },
  { cls := Value.type "tuple", data := Data.seq #[Value.str (Str.ofString "real") 467] },
  { cls := Value.type "tuple", data := Data.seq #[] },
  { cls := Value.none, dict := none, data := .func (fdata (Str.ofString "truncate_real") 0 (Value.none) (Value.none) 0 (cells 26)), slots := #[] },
  { cls := Value.type "code", data := Data.fields #[Value.str (Str.ofString "truncate_real") 464, Value.str (Str.ofString "truncate_real") 465, Value.str (Str.ofString "/claim/cut.py") 466, Value.int 91 0, Value.int 1 0, Value.int 0 0, Value.int 0 0, Value.int 3 0, Value.ref 227, Value.bool true, Value.int 181 0, Value.ref 228, Value.none, Value.ref 229, Value.ref 230, Value.ref 231, Value.int 468 0, Value.int 91 0, Value.str (Str.ofString "/claim/cut.py") 469] },
  { cls := Value.type "function", dict := none, data := .func (fdata (Str.ofString "truncate_real") 3 (Value.str (Str.ofString "scheme.binary") 274) (Value.ref 232) 0 (cells 26)), slots := #[] },
  { cls := Value.type "tuple", data := Data.seq #[] },
  { cls := Value.none, data := Data.fields #[] },
  { cls := Value.type "tuple", data := Data.seq #[Value.str (Str.ofString "real") 474] },
  { cls := Value.type "tuple", data := Data.seq #[] },
  { cls := Value.none, dict := none, data := .func (fdata (Str.ofString "round_real") 0 (Value.none) (Value.none) 0 (cells 27)), slots := #[] },
  { cls := Value.type "code", data := Data.fields #[Value.str (Str.ofString "round_real") 471, Value.str (Str.ofString "round_real") 472, Value.str (Str.ofString "/claim/cut.py") 473, Value.int 93 0, Value.int 1 0, Value.int 0 0, Value.int 0 0, Value.int 3 0, Value.ref 234, Value.bool true, Value.int 181 0, Value.ref 235, Value.none, Value.ref 236, Value.ref 237, Value.ref 238, Value.int 475 0, Value.int 93 0, Value.str (Str.ofString "/claim/cut.py") 476] },
  { cls := Value.type "function", dict := none, data := .func (fdata (Str.ofString "round_real") 3 (Value.str (Str.ofString "scheme.binary") 274) (Value.ref 239) 0 (cells 27)), slots := #[] },
  { cls := Value.type "tuple", data := Data.seq #[] },
  { cls := Value.none, data := Data.fields #[] },
  { cls := Value.type "tuple", data := Data.seq #[Value.str (Str.ofString "precision") 481, Value.str (Str.ofString "real") 482, Value.str (Str.ofString "shift") 483] },
  { cls := Value.type "tuple", data := Data.seq #[] },
  { cls := Value.none, dict := none, data := .func (fdata (Str.ofString "full_mantissa") 0 (Value.none) (Value.none) 0 (cells 28)), slots := #[] },
  { cls := Value.type "code", data := Data.fields #[Value.str (Str.ofString "full_mantissa") 478, Value.str (Str.ofString "full_mantissa") 479, Value.str (Str.ofString "/claim/cut.py") 480, Value.int 97 0, Value.int 2 0, Value.int 0 0, Value.int 0 0, Value.int 3 0, Value.ref 241, Value.bool true, Value.int 181 0, Value.ref 242, Value.none, Value.ref 243, Value.ref 244, Value.ref 245, Value.int 484 0, Value.int 97 0, Value.str (Str.ofString "/claim/cut.py") 485] },
  { cls := Value.type "function", dict := none, data := .func (fdata (Str.ofString "full_mantissa") 3 (Value.str (Str.ofString "scheme.binary") 274) (Value.ref 246) 0 (cells 28)), slots := #[] },
  { cls := Value.type "tuple", data := Data.seq #[] },
  { cls := Value.none, data := Data.fields #[] },
  { cls := Value.type "tuple", data := Data.seq #[Value.str (Str.ofString "precision") 490, Value.str (Str.ofString "real") 491, Value.str (Str.ofString "found") 492, Value.str (Str.ofString "exponent") 493] },
  { cls := Value.type "tuple", data := Data.seq #[] },
  { cls := Value.none, dict := none, data := .func (fdata (Str.ofString "farther") 0 (Value.none) (Value.none) 0 (cells 29)), slots := #[] },
  { cls := Value.type "code", data := Data.fields #[Value.str (Str.ofString "farther") 487, Value.str (Str.ofString "farther") 488, Value.str (Str.ofString "/claim/cut.py") 489, Value.int 100 0, Value.int 2 0, Value.int 0 0, Value.int 0 0, Value.int 3 0, Value.ref 248, Value.bool true, Value.int 181 0, Value.ref 249, Value.none, Value.ref 250, Value.ref 251, Value.ref 252, Value.int 494 0, Value.int 100 0, Value.str (Str.ofString "/claim/cut.py") 495] },
  { cls := Value.type "function", dict := none, data := .func (fdata (Str.ofString "farther") 3 (Value.str (Str.ofString "scheme.binary") 274) (Value.ref 253) 0 (cells 29)), slots := #[] },
  { cls := Value.type "tuple", data := Data.seq #[] },
  { cls := Value.none, data := Data.fields #[] },
  { cls := Value.type "tuple", data := Data.seq #[Value.str (Str.ofString "precision") 500, Value.str (Str.ofString "real") 501, Value.str (Str.ofString "found") 502, Value.str (Str.ofString "exponent") 503] },
  { cls := Value.type "tuple", data := Data.seq #[] },
  { cls := Value.none, dict := none, data := .func (fdata (Str.ofString "nearer") 0 (Value.none) (Value.none) 0 (cells 30)), slots := #[] },
  { cls := Value.type "code", data := Data.fields #[Value.str (Str.ofString "nearer") 497, Value.str (Str.ofString "nearer") 498, Value.str (Str.ofString "/claim/cut.py") 499, Value.int 103 0, Value.int 2 0, Value.int 0 0, Value.int 0 0, Value.int 3 0, Value.ref 255, Value.bool true, Value.int 181 0, Value.ref 256, Value.none, Value.ref 257, Value.ref 258, Value.ref 259, Value.int 504 0, Value.int 103 0, Value.str (Str.ofString "/claim/cut.py") 505] },
  { cls := Value.type "function", dict := none, data := .func (fdata (Str.ofString "nearer") 3 (Value.str (Str.ofString "scheme.binary") 274) (Value.ref 260) 0 (cells 30)), slots := #[] },
  { cls := Value.type "tuple", data := Data.seq #[] },
  { cls := Value.none, data := Data.fields #[] },
  { cls := Value.type "tuple", data := Data.seq #[Value.str (Str.ofString "precision") 510, Value.str (Str.ofString "real") 511] },
  { cls := Value.type "tuple", data := Data.seq #[] },
  { cls := Value.none, dict := none, data := .func (fdata (Str.ofString "above") 0 (Value.none) (Value.none) 0 (cells 31)), slots := #[] },
  { cls := Value.type "code", data := Data.fields #[Value.str (Str.ofString "above") 507, Value.str (Str.ofString "above") 508, Value.str (Str.ofString "/claim/cut.py") 509, Value.int 108 0, Value.int 2 0, Value.int 0 0, Value.int 0 0, Value.int 3 0, Value.ref 262, Value.bool true, Value.int 181 0, Value.ref 263, Value.none, Value.ref 264, Value.ref 265, Value.ref 266, Value.int 512 0, Value.int 108 0, Value.str (Str.ofString "/claim/cut.py") 513] },
  { cls := Value.type "function", dict := none, data := .func (fdata (Str.ofString "above") 3 (Value.str (Str.ofString "scheme.binary") 274) (Value.ref 267) 0 (cells 31)), slots := #[] },
  { cls := Value.type "tuple", data := Data.seq #[] },
  { cls := Value.none, data := Data.fields #[] },
  { cls := Value.type "tuple", data := Data.seq #[Value.str (Str.ofString "precision") 518, Value.str (Str.ofString "real") 519] },
  { cls := Value.type "tuple", data := Data.seq #[] },
  { cls := Value.none, dict := none, data := .func (fdata (Str.ofString "below") 0 (Value.none) (Value.none) 0 (cells 32)), slots := #[] },
  { cls := Value.type "code", data := Data.fields #[Value.str (Str.ofString "below") 515, Value.str (Str.ofString "below") 516, Value.str (Str.ofString "/claim/cut.py") 517, Value.int 112 0, Value.int 2 0, Value.int 0 0, Value.int 0 0, Value.int 3 0, Value.ref 269, Value.bool true, Value.int 181 0, Value.ref 270, Value.none, Value.ref 271, Value.ref 272, Value.ref 273, Value.int 520 0, Value.int 112 0, Value.str (Str.ofString "/claim/cut.py") 521] },
  { cls := Value.type "function", dict := none, data := .func (fdata (Str.ofString "below") 3 (Value.str (Str.ofString "scheme.binary") 274) (Value.ref 274) 0 (cells 32)), slots := #[] },
  { cls := Value.type "tuple", data := Data.seq #[] },
  { cls := Value.none, data := Data.fields #[] },
  { cls := Value.type "tuple", data := Data.seq #[Value.str (Str.ofString "well") 528, Value.str (Str.ofString "many") 529] },
  { cls := Value.type "tuple", data := Data.seq #[] },
  { cls := Value.none, dict := none, data := .func (fdata (Str.ofString "_law_drawn") 0 (Value.none) (Value.none) 0 (cells 34)), slots := #[] },
  { cls := Value.type "code", data := Data.fields #[Value.str (Str.ofString "_law_drawn") 525, Value.str (Str.ofString "_law_drawn") 526, Value.str (Str.ofString "/claim/cut.py") 527, Value.int 115 0, Value.int 2 0, Value.int 0 0, Value.int 0 0, Value.int 3 0, Value.ref 276, Value.bool true, Value.int 181 0, Value.ref 277, Value.none, Value.ref 278, Value.ref 279, Value.ref 280, Value.int 530 0, Value.int 115 0, Value.str (Str.ofString "/claim/cut.py") 531] },
  { cls := Value.type "function", dict := none, data := .func (fdata (Str.ofString "_law_drawn") 3 (Value.str (Str.ofString "law_pq1013_01") 523) (Value.ref 281) 0 (cells 34)), slots := #[] },
  { cls := Value.type "tuple", data := Data.seq #[] },
  { cls := Value.none, data := Data.fields #[] },
  { cls := Value.type "tuple", data := Data.seq #[Value.str (Str.ofString "well") 536, Value.str (Str.ofString "bits") 537] },
  { cls := Value.type "tuple", data := Data.seq #[] },
  { cls := Value.none, dict := none, data := .func (fdata (Str.ofString "_law_fraction") 0 (Value.none) (Value.none) 0 (cells 35)), slots := #[] },
  { cls := Value.type "code", data := Data.fields #[Value.str (Str.ofString "_law_fraction") 533, Value.str (Str.ofString "_law_fraction") 534, Value.str (Str.ofString "/claim/cut.py") 535, Value.int 120 0, Value.int 2 0, Value.int 0 0, Value.int 0 0, Value.int 3 0, Value.ref 283, Value.bool true, Value.int 181 0, Value.ref 284, Value.none, Value.ref 285, Value.ref 286, Value.ref 287, Value.int 538 0, Value.int 120 0, Value.str (Str.ofString "/claim/cut.py") 539] },
  { cls := Value.type "function", dict := none, data := .func (fdata (Str.ofString "_law_fraction") 3 (Value.str (Str.ofString "law_pq1013_01") 523) (Value.ref 288) 0 (cells 35)), slots := #[] },
  { cls := Value.type "tuple", data := Data.seq #[] },
  { cls := Value.none, data := Data.fields #[] },
  { cls := Value.type "tuple", data := Data.seq #[Value.str (Str.ofString "real") 544, Value.str (Str.ofString "parts") 545, Value.str (Str.ofString "high") 546, Value.str (Str.ofString "low") 547] },
  { cls := Value.type "tuple", data := Data.seq #[] },
  { cls := Value.none, dict := none, data := .func (fdata (Str.ofString "_law_gap") 0 (Value.none) (Value.none) 0 (cells 36)), slots := #[] },
  { cls := Value.type "code", data := Data.fields #[Value.str (Str.ofString "_law_gap") 541, Value.str (Str.ofString "_law_gap") 542, Value.str (Str.ofString "/claim/cut.py") 543, Value.int 124 0, Value.int 2 0, Value.int 0 0, Value.int 0 0, Value.int 3 0, Value.ref 290, Value.bool true, Value.int 181 0, Value.ref 291, Value.none, Value.ref 292, Value.ref 293, Value.ref 294, Value.int 548 0, Value.int 124 0, Value.str (Str.ofString "/claim/cut.py") 549] },
  { cls := Value.type "function", dict := none, data := .func (fdata (Str.ofString "_law_gap") 3 (Value.str (Str.ofString "law_pq1013_01") 523) (Value.ref 295) 0 (cells 36)), slots := #[] },
  { cls := Value.type "tuple", data := Data.seq #[] },
  { cls := Value.none, data := Data.fields #[] },
  { cls := Value.type "tuple", data := Data.seq #[Value.str (Str.ofString "one") 554, Value.str (Str.ofString "other") 555] },
  { cls := Value.type "tuple", data := Data.seq #[] },
  { cls := Value.none, dict := none, data := .func (fdata (Str.ofString "_law_is_less") 0 (Value.none) (Value.none) 0 (cells 37)), slots := #[] },
  { cls := Value.type "code", data := Data.fields #[Value.str (Str.ofString "_law_is_less") 551, Value.str (Str.ofString "_law_is_less") 552, Value.str (Str.ofString "/claim/cut.py") 553, Value.int 127 0, Value.int 2 0, Value.int 0 0, Value.int 0 0, Value.int 3 0, Value.ref 297, Value.bool true, Value.int 181 0, Value.ref 298, Value.none, Value.ref 299, Value.ref 300, Value.ref 301, Value.int 556 0, Value.int 127 0, Value.str (Str.ofString "/claim/cut.py") 557] },
  { cls := Value.type "function", dict := none, data := .func (fdata (Str.ofString "_law_is_less") 3 (Value.str (Str.ofString "law_pq1013_01") 523) (Value.ref 302) 0 (cells 37)), slots := #[] },
  { cls := Value.type "tuple", data := Data.seq #[] },
  { cls := Value.none, data := Data.fields #[] },
  { cls := Value.type "tuple", data := Data.seq #[Value.str (Str.ofString "bits") 562, Value.str (Str.ofString "parts") 563, Value.str (Str.ofString "found") 564, Value.str (Str.ofString "gap") 565, Value.str (Str.ofString "mate") 566, Value.str (Str.ofString "other") 567, Value.str (Str.ofString "finer") 568] },
  { cls := Value.type "tuple", data := Data.seq #[] },
  { cls := Value.none, dict := none, data := .func (fdata (Str.ofString "_law_is_nearest") 0 (Value.none) (Value.none) 0 (cells 38)), slots := #[] },
  { cls := Value.type "code", data := Data.fields #[Value.str (Str.ofString "_law_is_nearest") 559, Value.str (Str.ofString "_law_is_nearest") 560, Value.str (Str.ofString "/claim/cut.py") 561, Value.int 129 0, Value.int 2 0, Value.int 0 0, Value.int 0 0, Value.int 3 0, Value.ref 304, Value.bool true, Value.int 181 0, Value.ref 305, Value.none, Value.ref 306, Value.ref 307, Value.ref 308, Value.int 569 0, Value.int 129 0, Value.str (Str.ofString "/claim/cut.py") 570] },
  { cls := Value.type "function", dict := none, data := .func (fdata (Str.ofString "_law_is_nearest") 3 (Value.str (Str.ofString "law_pq1013_01") 523) (Value.ref 309) 0 (cells 38)), slots := #[] },
  { cls := Value.type "tuple", data := Data.seq #[] },
  { cls := Value.none, data := Data.fields #[] },
  { cls := Value.type "tuple", data := Data.seq #[Value.str (Str.ofString "real") 575, Value.str (Str.ofString "high") 576, Value.str (Str.ofString "low") 577, Value.str (Str.ofString "under") 578, Value.str (Str.ofString "over") 579, Value.str (Str.ofString "due") 580, Value.str (Str.ofString "told") 581, Value.str (Str.ofString "rest") 582] },
  { cls := Value.type "tuple", data := Data.seq #[] },
  { cls := Value.none, dict := none, data := .func (fdata (Str.ofString "_law_are_wholes_right") 0 (Value.none) (Value.none) 0 (cells 39)), slots := #[] },
  { cls := Value.type "code", data := Data.fields #[Value.str (Str.ofString "_law_are_wholes_right") 572, Value.str (Str.ofString "_law_are_wholes_right") 573, Value.str (Str.ofString "/claim/cut.py") 574, Value.int 142 0, Value.int 1 0, Value.int 0 0, Value.int 0 0, Value.int 3 0, Value.ref 311, Value.bool true, Value.int 181 0, Value.ref 312, Value.none, Value.ref 313, Value.ref 314, Value.ref 315, Value.int 583 0, Value.int 142 0, Value.str (Str.ofString "/claim/cut.py") 584] },
  { cls := Value.type "function", dict := none, data := .func (fdata (Str.ofString "_law_are_wholes_right") 3 (Value.str (Str.ofString "law_pq1013_01") 523) (Value.ref 316) 0 (cells 39)), slots := #[] },
  { cls := Value.type "tuple", data := Data.seq #[] },
  { cls := Value.none, data := Data.fields #[] },
  { cls := Value.none, dict := none, data := .func (fdata (Str.ofString "law") 0 (Value.none) (Value.none) 0 (cells 40)), slots := #[] },
  { cls := Value.type "code", data := Data.fields #[Value.str (Str.ofString "law") 586, Value.str (Str.ofString "law") 587, Value.str (Str.ofString "/claim/cut.py") 588, Value.int 150 0, Value.int 1 0, Value.int 0 0, Value.int 0 0, Value.int 3 0, Value.ref 318, Value.bool true, Value.int 181 0, Value.ref 319, Value.none, Value.none, Value.none, Value.ref 320, Value.int 589 0, Value.int 150 0, Value.str (Str.ofString "/claim/cut.py") 590] },
  { cls := Value.type "function", dict := none, data := .func (fdata (Str.ofString "law") 3 (Value.str (Str.ofString "law_pq1013_01") 523) (Value.ref 321) 0 (cells 40)), slots := #[] }]
noncomputable def o2a : Obj := { cls := Value.none, data := Data.dict #[] }
noncomputable def o2z (P : Params) : Obj := { cls := Value.none, data := Data.dict #[{ hash := PyData.keyHash P (Str.ofString "type.__subclasses__.Exception.0"), key := Value.str (Str.ofString "type.__subclasses__.Exception.0") 216, val := Value.int 31 0 }, { hash := PyData.keyHash P (Str.ofString "type.__subclasses__.Exception.n"), key := Value.str (Str.ofString "type.__subclasses__.Exception.n") 217, val := Value.int 1 0 }] 2 }
noncomputable def shAt (w : World) (n toks k c : Nat) (o2 : Obj) (nm : Value) (subs : List Value) (os : OsState) : Shared := ⟨⟨⟨(objsAll w.params o2 nm k c subs).take n⟩, {}⟩, ⟨[]⟩, {}, toks, os⟩
noncomputable abbrev env : Env := { scope := PySem.Challenge.pw_pq1013_01.main.scope, locals := mainNs, globals := mainNs, cells := [], code := .ref 13, frame := some 14 }
noncomputable def part0 : List Stmt := ((behindTheImports PySem.Challenge.pw_pq1013_01).drop 0).take 2
noncomputable def part1 : List Stmt := ((behindTheImports PySem.Challenge.pw_pq1013_01).drop 2).take 1
noncomputable def part2 : List Stmt := ((behindTheImports PySem.Challenge.pw_pq1013_01).drop 3).take 2
noncomputable def part3 : List Stmt := ((behindTheImports PySem.Challenge.pw_pq1013_01).drop 5).take 2
noncomputable def part4 : List Stmt := ((behindTheImports PySem.Challenge.pw_pq1013_01).drop 7).take 8
noncomputable def part5 : List Stmt := ((behindTheImports PySem.Challenge.pw_pq1013_01).drop 15).take 8
noncomputable def part6 : List Stmt := ((behindTheImports PySem.Challenge.pw_pq1013_01).drop 23).take 8
noncomputable def part7 : List Stmt := ((behindTheImports PySem.Challenge.pw_pq1013_01).drop 31).take 10
noncomputable def rest8 : List Stmt := []
noncomputable def rest7 : List Stmt := part7 ++ rest8
noncomputable def rest6 : List Stmt := part6 ++ rest7
noncomputable def rest5 : List Stmt := part5 ++ rest6
noncomputable def rest4 : List Stmt := part4 ++ rest5
noncomputable def rest3 : List Stmt := part3 ++ rest4
noncomputable def rest2 : List Stmt := part2 ++ rest3
noncomputable def rest1 : List Stmt := part1 ++ rest2
noncomputable def rest0 : List Stmt := part0 ++ rest1
noncomputable abbrev code : Code := .body rest0 env
theorem body_eq : behindTheImports PySem.Challenge.pw_pq1013_01 = rest0 := by kernel_rfl
theorem go_pre (w : World) (os : OsState) : topGo treeTable PySem.Challenge.pw_pq1013_01 w 11 (some (.ref 6)) 12 ⟨boot_heap w.params, ⟨[]⟩, boot_drawn, boot_toks, os⟩ (topStub PySem.Challenge.pw_pq1013_01) = some ((shAt w 15 187 9 0 o2a (Value.str (Str.ofString "__main__") 164) [] os), ⟨denote treeTable (.body (behindTheImports PySem.Challenge.pw_pq1013_01) env), .body (behindTheImports PySem.Challenge.pw_pq1013_01) env, ⟨0, 0, 0, 0⟩, [topFrame ⟨0, 0, 0, 0⟩]⟩) := by rewrite [PySem.W.Fast.te15667345088766844465, PySem.W.Fast.te11892475500146522536, PySem.W.Fast.te14364793385576792824]; kernel_rfl
theorem go_block (w : World) (os : OsState) : segRun treeTable PySem.Challenge.pw_pq1013_01 w 11 (some (.ref 6)) 1 1 (shAt w 15 187 9 0 o2a (Value.str (Str.ofString "__main__") 164) [] os) (blockOf rest0 env code ⟨0, 0, 0, 0⟩ [topFrame ⟨0, 0, 0, 0⟩]) = some (.next, (shAt w 15 187 9 0 o2a (Value.str (Str.ofString "__main__") 164) [] os), code, ⟨0, 0, 0, 0⟩) := by rewrite [PySem.W.Fast.te14374325043358763698, PySem.W.Fast.te14364793385576792824]; kernel_rfl
theorem go_part0 (w : World) (os : OsState) : segRun treeTable PySem.Challenge.pw_pq1013_01 w 11 (some (.ref 6)) 1 300 (shAt w 15 187 9 0 o2a (Value.str (Str.ofString "__main__") 164) [] os) (piecesOf part0 env code ⟨0, 0, 0, 0⟩ [topFrame ⟨0, 0, 0, 0⟩]) = some (.next, (shAt w 35 220 10 3 (o2z w.params) (Value.str (Str.ofString "scheme.errors") 187) [] os), code, ⟨2, 0, 6, 34⟩) := by rewrite [PySem.W.Fast.te14374325043358763698, PySem.W.Fast.te14364793385576792824]; kernel_rfl
theorem go_part1 (w : World) (os : OsState) : segRun treeTable PySem.Challenge.pw_pq1013_01 w 11 (some (.ref 6)) 1 300 (shAt w 35 220 10 3 (o2z w.params) (Value.str (Str.ofString "scheme.errors") 187) [] os) (piecesOf part1 env code ⟨2, 0, 6, 34⟩ [topFrame ⟨0, 0, 0, 0⟩]) = some (.next, (shAt w 54 249 11 6 (o2z w.params) (Value.str (Str.ofString "scheme.errors") 187) [.ref 51] os), code, ⟨7, 0, 13, 26⟩) := by rewrite [PySem.W.Fast.te14374325043358763698, PySem.W.Fast.te14364793385576792824]; kernel_rfl
theorem go_part2 (w : World) (os : OsState) : segRun treeTable PySem.Challenge.pw_pq1013_01 w 11 (some (.ref 6)) 1 300 (shAt w 54 249 11 6 (o2z w.params) (Value.str (Str.ofString "scheme.errors") 187) [.ref 51] os) (piecesOf part2 env code ⟨7, 0, 13, 26⟩ [topFrame ⟨0, 0, 0, 0⟩]) = some (.next, (shAt w 73 276 12 9 (o2z w.params) (Value.str (Str.ofString "scheme.binary") 274) [.ref 51, .ref 70] os), code, ⟨19, 0, 19, 8⟩) := by rewrite [PySem.W.Fast.te14374325043358763698, PySem.W.Fast.te14364793385576792824]; kernel_rfl
theorem go_part3 (w : World) (os : OsState) : segRun treeTable PySem.Challenge.pw_pq1013_01 w 11 (some (.ref 6)) 1 300 (shAt w 73 276 12 9 (o2z w.params) (Value.str (Str.ofString "scheme.binary") 274) [.ref 51, .ref 70] os) (piecesOf part3 env code ⟨19, 0, 19, 8⟩ [topFrame ⟨0, 0, 0, 0⟩]) = some (.next, (shAt w 94 311 14 12 (o2z w.params) (Value.str (Str.ofString "scheme.binary") 274) [.ref 51, .ref 70] os), code, ⟨21, 0, 25, 32⟩) := by rewrite [PySem.W.Fast.te14374325043358763698, PySem.W.Fast.te14364793385576792824]; kernel_rfl
theorem go_part4 (w : World) (os : OsState) : segRun treeTable PySem.Challenge.pw_pq1013_01 w 11 (some (.ref 6)) 1 300 (shAt w 94 311 14 12 (o2z w.params) (Value.str (Str.ofString "scheme.binary") 274) [.ref 51, .ref 70] os) (piecesOf part4 env code ⟨21, 0, 25, 32⟩ [topFrame ⟨0, 0, 0, 0⟩]) = some (.next, (shAt w 150 383 22 36 (o2z w.params) (Value.str (Str.ofString "scheme.binary") 274) [.ref 51, .ref 70] os), code, ⟨51, 0, 59, 101⟩) := by rewrite [PySem.W.Fast.te14374325043358763698, PySem.W.Fast.te14364793385576792824]; kernel_rfl
theorem go_part5 (w : World) (os : OsState) : segRun treeTable PySem.Challenge.pw_pq1013_01 w 11 (some (.ref 6)) 1 300 (shAt w 150 383 22 36 (o2z w.params) (Value.str (Str.ofString "scheme.binary") 274) [.ref 51, .ref 70] os) (piecesOf part5 env code ⟨51, 0, 59, 101⟩ [topFrame ⟨0, 0, 0, 0⟩]) = some (.next, (shAt w 206 443 30 60 (o2z w.params) (Value.str (Str.ofString "scheme.binary") 274) [.ref 51, .ref 70] os), code, ⟨79, 0, 84, 78⟩) := by rewrite [PySem.W.Fast.te14374325043358763698, PySem.W.Fast.te14364793385576792824]; kernel_rfl
theorem go_part6 (w : World) (os : OsState) : segRun treeTable PySem.Challenge.pw_pq1013_01 w 11 (some (.ref 6)) 1 300 (shAt w 206 443 30 60 (o2z w.params) (Value.str (Str.ofString "scheme.binary") 274) [.ref 51, .ref 70] os) (piecesOf part6 env code ⟨79, 0, 84, 78⟩ [topFrame ⟨0, 0, 0, 0⟩]) = some (.next, (shAt w 262 507 38 84 (o2z w.params) (Value.str (Str.ofString "scheme.binary") 274) [.ref 51, .ref 70] os), code, ⟨103, 0, 107, 54⟩) := by rewrite [PySem.W.Fast.te14374325043358763698, PySem.W.Fast.te14364793385576792824]; kernel_rfl
theorem go_part7 (w : World) (os : OsState) : segRun treeTable PySem.Challenge.pw_pq1013_01 w 11 (some (.ref 6)) 1 300 (shAt w 262 507 38 84 (o2z w.params) (Value.str (Str.ofString "scheme.binary") 274) [.ref 51, .ref 70] os) (piecesOf part7 env code ⟨103, 0, 107, 54⟩ [topFrame ⟨0, 0, 0, 0⟩]) = some (.next, (shAt w 323 592 47 111 (o2z w.params) (Value.str (Str.ofString "law_pq1013_01") 523) [.ref 51, .ref 70] os), code, ⟨150, 0, 169, 15⟩) := by rewrite [PySem.W.Fast.te14374325043358763698, PySem.W.Fast.te14364793385576792824]; kernel_rfl
theorem run_end (w : World) (os : OsState) : topRun treeTable PySem.Challenge.pw_pq1013_01 w 11 (some (.ref 6)) 5 (shAt w 323 592 47 111 (o2z w.params) (Value.str (Str.ofString "law_pq1013_01") 523) [.ref 51, .ref 70] os) (restOf rest8 env code ⟨150, 0, 169, 15⟩ [topFrame ⟨0, 0, 0, 0⟩]) = some (shAt w 323 592 47 111 (o2z w.params) (Value.str (Str.ofString "law_pq1013_01") 523) [.ref 51, .ref 70] os) := by show topRun treeTable PySem.Challenge.pw_pq1013_01 w 11 (some (.ref 6)) 5 _ ⟨doneF .next, code, ⟨150, 0, 169, 15⟩, [topFrame ⟨0, 0, 0, 0⟩]⟩ = _; rewrite [PySem.W.Fast.te14082659384304107361, PySem.W.Fast.te14364793385576792824]; kernel_rfl
theorem run_7 (w : World) (os : OsState) : topRun treeTable PySem.Challenge.pw_pq1013_01 w 11 (some (.ref 6)) (300 + 5) (shAt w 262 507 38 84 (o2z w.params) (Value.str (Str.ofString "scheme.binary") 274) [.ref 51, .ref 70] os) (restOf rest7 env code ⟨103, 0, 107, 54⟩ [topFrame ⟨0, 0, 0, 0⟩]) = some (shAt w 323 592 47 111 (o2z w.params) (Value.str (Str.ofString "law_pq1013_01") 523) [.ref 51, .ref 70] os) := piece_app (go_part7 w os) (run_end w os)
theorem run_6 (w : World) (os : OsState) : topRun treeTable PySem.Challenge.pw_pq1013_01 w 11 (some (.ref 6)) (300 + (300 + 5)) (shAt w 206 443 30 60 (o2z w.params) (Value.str (Str.ofString "scheme.binary") 274) [.ref 51, .ref 70] os) (restOf rest6 env code ⟨79, 0, 84, 78⟩ [topFrame ⟨0, 0, 0, 0⟩]) = some (shAt w 323 592 47 111 (o2z w.params) (Value.str (Str.ofString "law_pq1013_01") 523) [.ref 51, .ref 70] os) := piece_app (go_part6 w os) (run_7 w os)
theorem run_5 (w : World) (os : OsState) : topRun treeTable PySem.Challenge.pw_pq1013_01 w 11 (some (.ref 6)) (300 + (300 + (300 + 5))) (shAt w 150 383 22 36 (o2z w.params) (Value.str (Str.ofString "scheme.binary") 274) [.ref 51, .ref 70] os) (restOf rest5 env code ⟨51, 0, 59, 101⟩ [topFrame ⟨0, 0, 0, 0⟩]) = some (shAt w 323 592 47 111 (o2z w.params) (Value.str (Str.ofString "law_pq1013_01") 523) [.ref 51, .ref 70] os) := piece_app (go_part5 w os) (run_6 w os)
theorem run_4 (w : World) (os : OsState) : topRun treeTable PySem.Challenge.pw_pq1013_01 w 11 (some (.ref 6)) (300 + (300 + (300 + (300 + 5)))) (shAt w 94 311 14 12 (o2z w.params) (Value.str (Str.ofString "scheme.binary") 274) [.ref 51, .ref 70] os) (restOf rest4 env code ⟨21, 0, 25, 32⟩ [topFrame ⟨0, 0, 0, 0⟩]) = some (shAt w 323 592 47 111 (o2z w.params) (Value.str (Str.ofString "law_pq1013_01") 523) [.ref 51, .ref 70] os) := piece_app (go_part4 w os) (run_5 w os)
theorem run_3 (w : World) (os : OsState) : topRun treeTable PySem.Challenge.pw_pq1013_01 w 11 (some (.ref 6)) (300 + (300 + (300 + (300 + (300 + 5))))) (shAt w 73 276 12 9 (o2z w.params) (Value.str (Str.ofString "scheme.binary") 274) [.ref 51, .ref 70] os) (restOf rest3 env code ⟨19, 0, 19, 8⟩ [topFrame ⟨0, 0, 0, 0⟩]) = some (shAt w 323 592 47 111 (o2z w.params) (Value.str (Str.ofString "law_pq1013_01") 523) [.ref 51, .ref 70] os) := piece_app (go_part3 w os) (run_4 w os)
theorem run_2 (w : World) (os : OsState) : topRun treeTable PySem.Challenge.pw_pq1013_01 w 11 (some (.ref 6)) (300 + (300 + (300 + (300 + (300 + (300 + 5)))))) (shAt w 54 249 11 6 (o2z w.params) (Value.str (Str.ofString "scheme.errors") 187) [.ref 51] os) (restOf rest2 env code ⟨7, 0, 13, 26⟩ [topFrame ⟨0, 0, 0, 0⟩]) = some (shAt w 323 592 47 111 (o2z w.params) (Value.str (Str.ofString "law_pq1013_01") 523) [.ref 51, .ref 70] os) := piece_app (go_part2 w os) (run_3 w os)
theorem run_1 (w : World) (os : OsState) : topRun treeTable PySem.Challenge.pw_pq1013_01 w 11 (some (.ref 6)) (300 + (300 + (300 + (300 + (300 + (300 + (300 + 5))))))) (shAt w 35 220 10 3 (o2z w.params) (Value.str (Str.ofString "scheme.errors") 187) [] os) (restOf rest1 env code ⟨2, 0, 6, 34⟩ [topFrame ⟨0, 0, 0, 0⟩]) = some (shAt w 323 592 47 111 (o2z w.params) (Value.str (Str.ofString "law_pq1013_01") 523) [.ref 51, .ref 70] os) := piece_app (go_part1 w os) (run_2 w os)
theorem run_0 (w : World) (os : OsState) : topRun treeTable PySem.Challenge.pw_pq1013_01 w 11 (some (.ref 6)) (300 + (300 + (300 + (300 + (300 + (300 + (300 + (300 + 5)))))))) (shAt w 15 187 9 0 o2a (Value.str (Str.ofString "__main__") 164) [] os) (restOf rest0 env code ⟨0, 0, 0, 0⟩ [topFrame ⟨0, 0, 0, 0⟩]) = some (shAt w 323 592 47 111 (o2z w.params) (Value.str (Str.ofString "law_pq1013_01") 523) [.ref 51, .ref 70] os) := piece_app (go_part0 w os) (run_1 w os)
theorem run_block (w : World) (os : OsState) : topRun treeTable PySem.Challenge.pw_pq1013_01 w 11 (some (.ref 6)) (1 + (300 + (300 + (300 + (300 + (300 + (300 + (300 + (300 + 5))))))))) (shAt w 15 187 9 0 o2a (Value.str (Str.ofString "__main__") 164) [] os) ⟨denote treeTable code, code, ⟨0, 0, 0, 0⟩, [topFrame ⟨0, 0, 0, 0⟩]⟩ = some (shAt w 323 592 47 111 (o2z w.params) (Value.str (Str.ofString "law_pq1013_01") 523) [.ref 51, .ref 70] os) := piece_block (go_block w os) (run_0 w os)
theorem run_all (w : World) (os : OsState) : topRun treeTable PySem.Challenge.pw_pq1013_01 w 11 (some (.ref 6)) (12 + (1 + (300 + (300 + (300 + (300 + (300 + (300 + (300 + (300 + 5)))))))))) ⟨boot_heap w.params, ⟨[]⟩, boot_drawn, boot_toks, os⟩ (topStub PySem.Challenge.pw_pq1013_01) = some (shAt w 323 592 47 111 (o2z w.params) (Value.str (Str.ofString "law_pq1013_01") 523) [.ref 51, .ref 70] os) := by have h := go_pre w os; rw [body_eq] at h; exact go_top h (run_block w os)
noncomputable def heapZ (P : Params) : Heap := ⟨⟨(objsAll P (o2z P) (Value.str (Str.ofString "law_pq1013_01") 523) 47 111 [.ref 51, .ref 70]).take 323⟩, {}⟩
theorem opens : ∀ w : World, (fencedOpening treeTable PySem.Challenge.pw_pq1013_01 w 4112).map (fun s => (s.heap, s.gens, s.drawn, s.toks)) = some (boot_heap w.params, Array.mk [], boot_drawn, boot_toks) :=
  boot_open (by kernel_rfl) (by decide) (fun s => by kernel_rfl)
theorem size_ok (w : World) : ((boot_heap w.params).isNs mainGlobals && (Array.mk [] : Array GenState).size == 0, (boot_heap w.params).objs.size, (boot_heap w.params).nsMap mainGlobals "__annotations__") = (true, 11, (some (.ref 6))) := by kernel_rfl
noncomputable abbrev shZ (w : World) (os : OsState) : Shared := ⟨heapZ w.params, ⟨[]⟩, {}, 592, os⟩
noncomputable abbrev mods : List Str := importedModules PySem.Challenge.pw_pq1013_01.main.body
theorem statics_ok (w : World) (os : OsState) : (staticsOk mods (boot_heap w.params) (heapZ w.params) && namesBound PySem.Challenge.pw_pq1013_01 (heapZ w.params) && gensDone (shZ w os) && laidKept (boot_heap w.params) (heapZ w.params)) = true := by kernel_rfl
noncomputable abbrev loose : List Str := [Str.ofString "REACH"]
noncomputable abbrev xt : Shared → Bool := fun s => xlAt Mine.view [(Str.ofString "REACH", WData.int 65536)] s && recOk (RowW.records (OpenRow.toRowW (OpenLaw.row PySem.Challenge.rw_pq1013_01))) s
theorem seen_ok (w : World) (os : OsState) : openSeen view loose mods xt true (shZ w os) = openGood view loose := by rewrite [PySem.W.Fast.te4187177175401517315]; kernel_rfl
end Top
end Mine
local macro_rules | `(tactic| o_law) => `(tactic| refine holds_law Mine.law_said fun said => ?_)
local macro_rules | `(tactic| o_head $H:term) => `(tactic| (refine holds_open (q := Mine.view) (loose := [Str.ofString "REACH"]) (Xt := fun s => xlAt Mine.view [(Str.ofString "REACH", WData.int 65536)] s && recOk (RowW.records (OpenRow.toRowW (OpenLaw.row PySem.Challenge.rw_pq1013_01))) s) (XP := XL Mine.view [(Str.ofString "REACH", WData.int 65536)]) (Yf := Hook.obs $H) (Ya := Hook.val $H) (YP := Hook.says $H) (N := 4112) ?hl (Hook.of $H) (Hook.keeps $H) (fun s e => xl_of s (Bool.and_eq_true_iff.mp e).1) XL.keeps (by rfl) (by rfl) (by rfl) (fun s e => recFacts_of (Bool.and_eq_true_iff.mp e).2) (by rfl) (by decide +kernel) (by decide +kernel) ⟨rfl, rfl, rfl, rfl, rfl, by decide +kernel⟩ ?hw ?hc; (case hl => exact LeftO.of_pieces (H₀ := boot_heap) (H₁ := Mine.Top.heapZ) (gs₀ := Array.mk []) (gs₁ := Array.mk []) (d₀ := boot_drawn) (d₁ := {}) (k₀ := boot_toks) (k₁ := 592) (m₀ := 11) (ann := (some (.ref 6))) (M := 12 + (1 + (300 + (300 + (300 + (300 + (300 + (300 + (300 + (300 + 5)))))))))) Mine.Top.opens Mine.Top.size_ok Mine.Top.run_all (by decide) (fun w => funext fun os => looks_pair (Mine.Top.statics_ok w os) (looks_pair (Mine.Top.seen_ok w os) (by as_aux_lemma => kernel_rfl))))))
open_top hd for PySem.Challenge.rw_pq1013_01
-- plain functions and numbers
namespace Mine
def sz (n : Int) : Int := (Builtin.Int.intBits n : Int)
def ab (n : Int) : Int := if n < 0 then -n else n
def sgn (n : Int) : Int := b2i (decide (0 < n)) - b2i (decide (n < 0))
def tz (n : Int) : Int := (Builtin.Int.intBits (Builtin.bitAnd n (0 - n)) : Int) - 1
def leanP (m e : Int) : Int × Int := if m = 0 then (0, 0) else (m.fdiv (2 ^ (tz m).toNat), e + tz m)
def nsh (n g : Int) : Int :=
  if 1 * 2 ^ (g - 1).toNat < Builtin.bitAnd n (1 * 2 ^ g.toNat - 1) ∨ (Builtin.bitAnd n (1 * 2 ^ g.toNat - 1) = 1 * 2 ^ (g - 1).toNat ∧ Builtin.bitAnd (n.fdiv (2 ^ g.toNat)) 1 = 1)
  then n.fdiv (2 ^ g.toNat) + 1 else n.fdiv (2 ^ g.toNat)
def stk (n : Int) (b : Bool) : Int := 2 * n + (if b then 1 else 0)
def exP (m e : Int) : Int × Int := if 0 ≤ e then (m * 2 ^ e.toNat, 1) else (m, 1 * 2 ^ (0 - e).toNat)
theorem intBits_neg (n : Int) : Builtin.Int.intBits (-n) = Builtin.Int.intBits n := by
  unfold Builtin.Int.intBits
  split <;> split <;> simp_all
theorem sz_ab (n : Int) : (Builtin.Int.intBits (if n < 0 then -n else n) : Int) = sz n := by
  unfold sz
  split
  · rw [intBits_neg]
  · rfl
def fmP (p m e : Int) : Int × Int := (ab m * 2 ^ (p - sz m).toNat, e - (p - sz m))
def shrP (p m e : Int) : Int × Int := if sz m - p ≤ 0 then leanP m e else leanP (sgn m * nsh (ab m) (sz m - p)) (e + (sz m - p))
def mnP (a b : Int) : Int := if b < a then b else a
def cmpM (m1 e1 m2 e2 : Int) : Int := if sz m1 + e1 = sz m2 + e2 then sgn (m1 * 2 ^ (e1 - mnP e1 e2).toNat - m2 * 2 ^ (e2 - mnP e1 e2).toNat) else if sz m2 + e2 < sz m1 + e1 then 1 else -1
def cmpR (m1 e1 m2 e2 : Int) : Int := if sgn m1 = sgn m2 then (if sgn m1 = 0 then 0 else sgn m1 * cmpM (ab m1) e1 (ab m2) e2) else if sgn m2 < sgn m1 then 1 else -1
def flP (m e : Int) : Int × Int := if 0 ≤ e then (m, e) else leanP (m.fdiv (2 ^ (0 - e).toNat)) 0
def clP (m e : Int) : Int × Int := (0 - (flP (0 - m) e).1, (flP (0 - m) e).2)
def trP (m e : Int) : Int × Int := if 0 ≤ m then flP m e else clP m e
def roP (m e : Int) : Int × Int := if 0 ≤ e then (m, e) else leanP (sgn m * nsh (ab m) (0 - e)) 0
def farP (p m e : Int) : Int × Int := leanP (sgn m * ((fmP p m e).1 + 1)) (fmP p m e).2
def neaP (p m e : Int) : Int × Int := if (fmP p m e).1 = 1 * 2 ^ (p - 1).toNat then leanP (sgn m * (2 * (fmP p m e).1 - 1)) ((fmP p m e).2 - 1) else leanP (sgn m * ((fmP p m e).1 - 1)) (fmP p m e).2
def abvP (p m e : Int) : Int × Int := if 0 < m then farP p m e else neaP p m e
def belP (p m e : Int) : Int × Int := (0 - (abvP p (0 - m) e).1, (abvP p (0 - m) e).2)
def gapP (m e t b : Int) : Int × Int := (ab ((exP m e).1 * b - t * (exP m e).2), (exP m e).2 * b)
def lessP (a b c d : Int) : Bool := decide (a * d < c * b)
def shf (p t b : Int) : Int := p + 2 + sz b - sz t
def qnum (p t b : Int) : Int := if 0 ≤ shf p t b then ab t * 2 ^ (shf p t b).toNat else ab t
def qden (p t b : Int) : Int := if 0 ≤ shf p t b then b else b * 2 ^ (0 - shf p t b).toNat
def bigM (p t b : Int) : Int := stk ((qnum p t b).fdiv (qden p t b)) ((qnum p t b).fmod (qden p t b) != 0)
def rndP (p t b : Int) : Int × Int := if t = 0 then (0, 0) else shrP p (sgn t * bigM p t b) (0 - shf p t b - 1)
theorem p2pos (k : Nat) : (0 : Int) < 2 ^ k := kbt_pos k
theorem sz_nonneg (n : Int) : 0 ≤ sz n := Int.natCast_nonneg _
theorem sz_le_iff {n : Int} {k : Nat} : sz n ≤ k ↔ n.natAbs < 2 ^ k := by
  unfold sz
  rw [← intBits_le_iff]
  omega
theorem natAbs_lt_iff {n : Int} {k : Nat} : n.natAbs < 2 ^ k ↔ (-(2 ^ k) < n ∧ n < 2 ^ k) := by
  have := kbt_cast k
  omega
theorem sz_le_iff' {n : Int} {k : Nat} : sz n ≤ k ↔ (-(2 ^ k) < n ∧ n < 2 ^ k) := by rw [sz_le_iff, natAbs_lt_iff]
theorem sz_le64 {n : Int} (h : -18446744073709551616 < n ∧ n < 18446744073709551616) : sz n ≤ 64 := by
  have e : (2 : Int) ^ 64 = 18446744073709551616 := by decide
  refine (sz_le_iff' (k := 64)).mpr ?_
  rw [e]
  exact h
theorem sz_pos {n : Int} (h : n ≠ 0) : 1 ≤ sz n := by
  by_cases hk : sz n ≤ (0 : Nat)
  · rw [sz_le_iff] at hk
    omega
  · omega
theorem sz_low {n : Int} (h : n ≠ 0) {k : Nat} (hk : sz n = k) : 2 ^ (k - 1) ≤ n.natAbs := by
  have := sz_pos h
  by_cases hc : n.natAbs < 2 ^ (k - 1)
  · rw [← sz_le_iff] at hc
    omega
  · omega
theorem sz_abx (n : Int) : sz (ab n) = sz n := by
  unfold ab sz
  split
  · rw [intBits_neg]
  · rfl
theorem ab_nonneg (n : Int) : 0 ≤ ab n := by unfold ab; split <;> omega
theorem sgn_pos {n : Int} (h : 0 < n) : sgn n = 1 := by
  unfold sgn b2i
  have h2 : ¬ n < 0 := by omega
  simp [h, h2]
theorem sgn_neg {n : Int} (h : n < 0) : sgn n = -1 := by
  unfold sgn b2i
  have h2 : ¬ 0 < n := by omega
  simp [h, h2]
theorem sgn_zero : sgn 0 = 0 := by decide
theorem sgn_bd (n : Int) : -1 ≤ sgn n ∧ sgn n ≤ 1 := by
  rcases Int.lt_trichotomy n 0 with h | h | h
  · rw [sgn_neg h]; omega
  · subst h; decide
  · rw [sgn_pos h]; omega
/-- every int but nought is an odd one times a power of two -/
theorem odd_part {n : Int} (h : n ≠ 0) : ∃ (k : Nat) (a : Int), n = 2 ^ k * (2 * a + 1) := by
  have key : ∀ (f : Nat) (n : Int), n ≠ 0 → n.natAbs ≤ f → ∃ (k : Nat) (a : Int), n = 2 ^ k * (2 * a + 1) := by
    intro f
    induction f with
    | zero => intro n h0 h1; omega
    | succ f ih =>
      intro n h0 h1
      by_cases h2 : n % 2 = 0
      · obtain ⟨k, a, e⟩ := ih (n / 2) (by omega) (by omega)
        refine ⟨k + 1, a, ?_⟩
        rw [Int.pow_succ, Int.mul_comm (2 ^ k) 2, Int.mul_assoc, ← e]
        omega
      · exact ⟨0, n / 2, by rw [Int.pow_zero]; omega⟩
  exact key _ n h (Nat.le_refl _)
theorem intBits_two_pow (k : Nat) : Builtin.Int.intBits ((2 : Int) ^ k) = k + 1 := by
  have hc := kbt_cast k
  have e : ((2 : Int) ^ k).natAbs = 2 ^ k := by rw [← hc]; exact Int.natAbs_natCast _
  have h1 : Builtin.Int.intBits ((2 : Int) ^ k) ≤ k + 1 := by
    rw [intBits_le_iff, e]
    exact Nat.pow_lt_pow_right (by decide) (by omega)
  have h2 : ¬ Builtin.Int.intBits ((2 : Int) ^ k) ≤ k := by
    rw [intBits_le_iff, e]
    omega
  omega
theorem tz_eq (k : Nat) (a : Int) : tz (2 ^ k * (2 * a + 1)) = k := by
  unfold tz
  rw [Int.zero_sub, kbt_low, intBits_two_pow]
  omega
theorem tz_fact (n : Int) : n = 0 ∨ 0 ≤ tz n := by
  by_cases h : n = 0
  · exact .inl h
  · obtain ⟨k, a, e⟩ := odd_part h
    rw [e, tz_eq]
    omega
/-- what lean gives: an odd mantissa and the exponent raised by what was taken out -/
theorem leanP_spec {n : Int} (h : n ≠ 0) (e : Int) : ∃ (k : Nat) (o : Int), n = o * 2 ^ k ∧ o % 2 = 1 ∧ leanP n e = (o, e + k) := by
  obtain ⟨k, a, hn⟩ := odd_part h
  refine ⟨k, 2 * a + 1, by rw [hn, Int.mul_comm], by omega, ?_⟩
  unfold leanP
  rw [if_neg h, hn, tz_eq, Int.toNat_natCast, Int.mul_comm, kbt_q1]
theorem fdiv_bd (n : Int) (k : Nat) : (0 ≤ n → 0 ≤ n.fdiv (2 ^ k) ∧ n.fdiv (2 ^ k) ≤ n) ∧ (n < 0 → n ≤ n.fdiv (2 ^ k) ∧ n.fdiv (2 ^ k) < 0) := by
  have hp := kbt_pos k
  rw [Int.fdiv_eq_ediv_of_nonneg _ (Int.le_of_lt hp)]
  refine ⟨fun h => ⟨Int.ediv_nonneg h (Int.le_of_lt hp), Int.ediv_le_self _ h⟩, fun h => ?_⟩
  have h1 := Int.ediv_neg_of_neg_of_pos h hp
  refine ⟨?_, h1⟩
  have h2 := Int.emod_nonneg n (show (2 : Int) ^ k ≠ 0 by omega)
  have h3 := Int.mul_ediv_add_emod n (2 ^ k)
  have h4 : (2 : Int) ^ k * (n / 2 ^ k) ≤ 1 * (n / 2 ^ k) := by
    have := Int.mul_le_mul_of_nonneg_right (show (1 : Int) ≤ 2 ^ k by omega) (show 0 ≤ -(n / 2 ^ k) by omega)
    rw [Int.mul_neg, Int.mul_neg] at this
    omega
  have h5 := Int.emod_lt_of_pos n hp
  by_cases hc : n / 2 ^ k < n
  · exfalso
    have h6 : (2 : Int) ^ k * (n / 2 ^ k) ≤ 2 ^ k * (n - 1) := Int.mul_le_mul_of_nonneg_left (by omega) (Int.le_of_lt hp)
    rw [Int.mul_sub, Int.mul_one] at h6
    have h7 : (2 : Int) ^ k * n ≤ 1 * n := by
      have := Int.mul_le_mul_of_nonneg_right (show (1 : Int) ≤ 2 ^ k by omega) (show 0 ≤ -n by omega)
      rw [Int.mul_neg, Int.mul_neg] at this
      omega
    omega
  · omega
theorem nsh_bd {n : Int} (h : 0 ≤ n) (g : Int) : 0 ≤ nsh n g ∧ nsh n g ≤ n + 1 := by
  have := (fdiv_bd n g.toNat).1 h
  unfold nsh
  split <;> omega
theorem fm_lt {n : Int} {p : Int} (h : sz n ≤ p) : 0 ≤ ab n * 2 ^ (p - sz n).toNat ∧ ab n * 2 ^ (p - sz n).toNat < 2 ^ p.toNat := by
  have h0 := sz_nonneg n
  have h1 : (ab n).natAbs < 2 ^ (sz n).toNat := by
    rw [← sz_le_iff, sz_abx]
    omega
  have h2 := ab_nonneg n
  have h3 := kbt_cast (sz n).toNat
  have h4 : ab n < 2 ^ (sz n).toNat := by omega
  refine ⟨Int.mul_nonneg h2 (Int.le_of_lt (kbt_pos _)), ?_⟩
  have h5 := Int.mul_lt_mul_of_pos_right h4 (kbt_pos (p - sz n).toNat)
  rw [← Int.pow_add, show (sz n).toNat + (p - sz n).toNat = p.toNat by omega] at h5
  exact h5
theorem fm_lt20 {n : Int} {p : Int} (h : sz n ≤ p) (hp : p ≤ 20) : 0 ≤ ab n * 2 ^ (p - sz n).toNat ∧ ab n * 2 ^ (p - sz n).toNat < 1048576 := by
  have h1 := fm_lt h
  have h2 : (2 : Int) ^ p.toNat ≤ 2 ^ 20 := by
    have e1 := kbt_cast p.toNat
    have e2 : 2 ^ p.toNat ≤ 2 ^ 20 := Nat.pow_le_pow_right (by decide) (by omega)
    have e3 := kbt_cast 20
    omega
  have e : (2 : Int) ^ 20 = 1048576 := by decide
  omega
theorem sgn_mul (n x : Int) : (0 < n ∧ sgn n * x = x) ∨ (n = 0 ∧ sgn n * x = 0) ∨ (n < 0 ∧ sgn n * x = -x) := by
  rcases Int.lt_trichotomy n 0 with h | h | h
  · rw [sgn_neg h]; omega
  · subst h; rw [sgn_zero]; omega
  · rw [sgn_pos h]; omega
theorem cmpM_bd (m1 e1 m2 e2 : Int) : -1 ≤ cmpM m1 e1 m2 e2 ∧ cmpM m1 e1 m2 e2 ≤ 1 := by
  unfold cmpM
  split
  · exact sgn_bd _
  · split <;> omega
theorem sz_leanP_pre {n e : Int} (h : -18446744073709551616 < n ∧ n < 18446744073709551616) (he : -30000 ≤ e ∧ e ≤ 30000) : sz n + e ≤ 65536 ∧ -65536 ≤ sz n + e := by
  have := sz_le64 h
  have := sz_nonneg n
  omega
theorem sz_neg (n : Int) : sz (-n) = sz n := by unfold sz; rw [intBits_neg]
theorem ab_fact (n : Int) : 0 ≤ ab n ∧ (ab n = n ∨ ab n = -n) := by unfold ab; split <;> omega
theorem sz_le40 {n : Int} (h : -1099511627776 < n ∧ n < 1099511627776) : sz n ≤ 40 := by
  have e : (2 : Int) ^ 40 = 1099511627776 := by decide
  refine (sz_le_iff' (k := 40)).mpr ?_
  rw [e]
  exact h
theorem sz_bounds {n : Int} (h : 0 < n) : ∃ k : Nat, sz n = k + 1 ∧ 2 ^ k ≤ n ∧ n < 2 ^ (k + 1) := by
  have h1 := sz_pos (n := n) (by omega)
  refine ⟨(sz n - 1).toNat, by omega, ?_, ?_⟩
  · by_cases hc : n < 2 ^ (sz n - 1).toNat
    · exfalso
      have := (sz_le_iff' (n := n) (k := (sz n - 1).toNat)).mpr ⟨by have := p2pos (sz n - 1).toNat; omega, hc⟩
      omega
    · omega
  · exact ((sz_le_iff' (n := n) (k := (sz n - 1).toNat + 1)).mp (by omega)).2
theorem sz_unique {n : Int} {k : Nat} (h1 : 2 ^ k ≤ n) (h2 : n < 2 ^ (k + 1)) : sz n = k + 1 := by
  have hp := p2pos k
  have h3 : sz n ≤ ((k + 1 : Nat) : Int) := sz_le_iff'.mpr ⟨by omega, h2⟩
  by_cases hc : sz n ≤ (k : Int)
  · have := (sz_le_iff'.mp hc).2
    omega
  · omega
theorem pow_mono {i j : Nat} (h : i ≤ j) : (2 : Int) ^ i ≤ 2 ^ j := by
  have h1 := kbt_cast i
  have h2 := kbt_cast j
  have h3 : 2 ^ i ≤ 2 ^ j := Nat.pow_le_pow_right (by decide) h
  omega
theorem pow_lt {i j : Nat} (h : i < j) : (2 : Int) ^ i < 2 ^ j := by
  have h1 := kbt_cast i
  have h2 := kbt_cast j
  have h3 : 2 ^ i < 2 ^ j := Nat.pow_lt_pow_right (by decide) h
  omega
theorem pow_lt_inv {i j : Nat} (h : (2 : Int) ^ i < 2 ^ j) : i < j := by
  by_cases hc : i < j
  · exact hc
  · have := pow_mono (i := j) (j := i) (by omega)
    omega
theorem pow_le_inv {i j : Nat} (h : (2 : Int) ^ i ≤ 2 ^ j) : i ≤ j := by
  by_cases hc : i ≤ j
  · exact hc
  · have := pow_lt (i := j) (j := i) (by omega)
    omega
theorem pow_s (k : Nat) : (2 : Int) ^ (k + 1) = 2 * 2 ^ k := by rw [Int.pow_succ, Int.mul_comm]
theorem ab_pos {n : Int} (h : n ≠ 0) : 0 < ab n := by
  have := ab_fact n
  omega
theorem ab_of_pos {n : Int} (h : 0 < n) : ab n = n := by unfold ab; split <;> omega
theorem qsetup {p t b : Int} (ht : t ≠ 0) (hb : 0 < b) (hp : 0 ≤ p) :
    ∃ j : Nat, 2 ^ (p.toNat + 2 + j) ≤ qnum p t b ∧ qnum p t b < 2 ^ (p.toNat + 3 + j) ∧ 2 ^ j ≤ qden p t b ∧ qden p t b < 2 ^ (j + 1) := by
  obtain ⟨i, hi, hi1, hi2⟩ := sz_bounds (ab_pos ht)
  obtain ⟨j, hj, hj1, hj2⟩ := sz_bounds hb
  rw [sz_abx] at hi
  have hs : shf p t b = p + 2 + j - i := by unfold shf; omega
  by_cases h : 0 ≤ shf p t b
  · refine ⟨j, ?_⟩
    unfold qnum qden
    rw [if_pos h, if_pos h]
    have e1 : p.toNat + 2 + j = i + (shf p t b).toNat := by omega
    have e2 : p.toNat + 3 + j = i + 1 + (shf p t b).toNat := by omega
    rw [e1, e2, Int.pow_add, Int.pow_add _ (i + 1)]
    exact ⟨Int.mul_le_mul_of_nonneg_right hi1 (Int.le_of_lt (p2pos _)), Int.mul_lt_mul_of_pos_right hi2 (p2pos _), hj1, hj2⟩
  · refine ⟨j + (0 - shf p t b).toNat, ?_⟩
    unfold qnum qden
    rw [if_neg h, if_neg h]
    have e1 : p.toNat + 2 + (j + (0 - shf p t b).toNat) = i := by omega
    have e2 : p.toNat + 3 + (j + (0 - shf p t b).toNat) = i + 1 := by omega
    have e3 : j + (0 - shf p t b).toNat + 1 = j + 1 + (0 - shf p t b).toNat := by omega
    rw [e1, e2, e3, Int.pow_add _ j, Int.pow_add _ (j + 1)]
    exact ⟨hi1, hi2, Int.mul_le_mul_of_nonneg_right hj1 (Int.le_of_lt (p2pos _)), Int.mul_lt_mul_of_pos_right hj2 (p2pos _)⟩
theorem kept_core {P j : Nat} {num den : Int} (h1 : 2 ^ (P + 2 + j) ≤ num) (h2 : num < 2 ^ (P + 3 + j)) (h3 : 2 ^ j ≤ den) (h4 : den < 2 ^ (j + 1)) : 2 ^ (P + 1) ≤ num / den ∧ num / den < 2 ^ (P + 3) := by
  have hd : 0 < den := by have := p2pos j; omega
  constructor
  · rw [Int.le_ediv_iff_mul_le hd]
    have := Int.mul_le_mul_of_nonneg_left (Int.le_of_lt h4) (Int.le_of_lt (p2pos (P + 1)))
    rw [← Int.pow_add, show P + 1 + (j + 1) = P + 2 + j by omega] at this
    omega
  · rw [Int.ediv_lt_iff_lt_mul hd]
    have := Int.mul_le_mul_of_nonneg_left h3 (Int.le_of_lt (p2pos (P + 3)))
    rw [← Int.pow_add] at this
    omega
theorem qden_pos {p t b : Int} (hb : 0 < b) : 0 < qden p t b := by
  unfold qden
  split
  · exact hb
  · exact Int.mul_pos hb (p2pos _)
theorem qnum_nonneg (p t b : Int) : 0 ≤ qnum p t b := by
  unfold qnum
  have := ab_nonneg t
  split
  · exact Int.mul_nonneg this (Int.le_of_lt (p2pos _))
  · exact this
/-- what is told of the number that is rounded: kept, the rest, and the sticky bit -/
theorem bigM_eq {p t b : Int} (hb : 0 < b) : bigM p t b = 2 * (qnum p t b / qden p t b) + (if qnum p t b % qden p t b = 0 then 0 else 1) := by
  have hd := qden_pos (p := p) (t := t) hb
  unfold bigM stk
  rw [Int.fdiv_eq_ediv_of_nonneg _ (Int.le_of_lt hd), Int.fmod_eq_emod_of_nonneg _ (Int.le_of_lt hd)]
  by_cases h : qnum p t b % qden p t b = 0 <;> simp [h]
theorem bigM_bd {p t b : Int} (ht : t ≠ 0) (hb : 0 < b) (hp : 0 ≤ p) : 2 ^ (p.toNat + 2) ≤ bigM p t b ∧ bigM p t b < 2 ^ (p.toNat + 4) := by
  obtain ⟨j, h1, h2, h3, h4⟩ := qsetup ht hb hp
  have h5 := kept_core h1 h2 h3 h4
  rw [bigM_eq hb]
  have e1 := pow_s (p.toNat + 1)
  have e2 := pow_s (p.toNat + 3)
  rw [show p.toNat + 1 + 1 = p.toNat + 2 by omega] at e1
  rw [show p.toNat + 3 + 1 = p.toNat + 4 by omega] at e2
  split <;> omega
theorem bigM_24 {p t b : Int} (ht : t ≠ 0) (hb : 0 < b) (hp : 0 ≤ p) (hp2 : p ≤ 20) : 0 < bigM p t b ∧ bigM p t b < 16777216 := by
  have h := bigM_bd ht hb hp
  have h1 := p2pos (p.toNat + 2)
  have h2 := pow_mono (i := p.toNat + 4) (j := 24) (by omega)
  have e : (2 : Int) ^ 24 = 16777216 := by decide
  omega
theorem log2_lt {y : Int} (h : sz y ≤ 9000) : y.natAbs.log2 < 9000 := by
  by_cases h0 : y = 0
  · subst h0; decide
  · have h1 : y.natAbs < 2 ^ 9000 := (sz_le_iff (k := 9000)).mp h
    exact (Nat.log2_lt (by omega)).mpr h1
theorem sz_mul_pow {b : Int} (hb : 0 < b) (k : Nat) : sz (b * 2 ^ k) = sz b + k := by
  obtain ⟨j, hj, h1, h2⟩ := sz_bounds hb
  have := sz_unique (n := b * 2 ^ k) (k := j + k) (by rw [Int.pow_add]; exact Int.mul_le_mul_of_nonneg_right h1 (Int.le_of_lt (p2pos _)))
    (by rw [show j + k + 1 = (j + 1) + k by omega, Int.pow_add]; exact Int.mul_lt_mul_of_pos_right h2 (p2pos _))
  omega
theorem rnd_pre (t : Int) {p b : Int} (hb : 0 < b) (hp : 0 ≤ p) (hp2 : p ≤ 20) : t ≠ 0 →
    (0 ≤ p + 2 + sz b - sz t → -16777216 < sgn t * stk ((ab t * 2 ^ (p + 2 + sz b - sz t).toNat).fdiv b) ((ab t * 2 ^ (p + 2 + sz b - sz t).toNat).fmod b != 0) ∧ sgn t * stk ((ab t * 2 ^ (p + 2 + sz b - sz t).toNat).fdiv b) ((ab t * 2 ^ (p + 2 + sz b - sz t).toNat).fmod b != 0) < 16777216) ∧
    (¬ 0 ≤ p + 2 + sz b - sz t → -16777216 < sgn t * stk ((ab t).fdiv (b * 2 ^ (0 - (p + 2 + sz b - sz t)).toNat)) ((ab t).fmod (b * 2 ^ (0 - (p + 2 + sz b - sz t)).toNat) != 0) ∧ sgn t * stk ((ab t).fdiv (b * 2 ^ (0 - (p + 2 + sz b - sz t)).toNat)) ((ab t).fmod (b * 2 ^ (0 - (p + 2 + sz b - sz t)).toNat) != 0) < 16777216) := by
  intro ht
  have h := bigM_24 ht hb hp hp2
  have h2 := sgn_mul t (bigM p t b)
  have h3 : -16777216 < sgn t * bigM p t b ∧ sgn t * bigM p t b < 16777216 := by omega
  unfold bigM qnum qden shf at h3
  exact ⟨fun hc => by simpa only [if_pos hc] using h3, fun hc => by simpa only [if_neg hc] using h3⟩

theorem rnd_z (p b : Int) : rndP p 0 b = (0, 0) := by unfold rndP; rw [if_pos rfl]
theorem rnd_a {p t b : Int} (ht : t ≠ 0) (h : 0 ≤ p + 2 + sz b - sz t) : rndP p t b = shrP p (sgn t * stk ((ab t * 2 ^ (p + 2 + sz b - sz t).toNat).fdiv b) ((ab t * 2 ^ (p + 2 + sz b - sz t).toNat).fmod b != 0)) (0 - (p + 2 + sz b - sz t) - 1) := by
  unfold rndP bigM qnum qden shf
  rw [if_neg ht, if_pos h, if_pos h]
theorem rnd_b {p t b : Int} (ht : t ≠ 0) (h : ¬ 0 ≤ p + 2 + sz b - sz t) : rndP p t b = shrP p (sgn t * stk ((ab t).fdiv (b * 2 ^ (0 - (p + 2 + sz b - sz t)).toNat)) ((ab t).fmod (b * 2 ^ (0 - (p + 2 + sz b - sz t)).toNat) != 0)) (0 - (p + 2 + sz b - sz t) - 1) := by
  unfold rndP bigM qnum qden shf
  rw [if_neg ht, if_neg h, if_neg h]
end Mine
namespace Mine
/-- `N` is `X / D` rounded to the nearest whole number, halves to the even one -/
def Rne (X D N : Int) : Prop := 2 * (X - N * D) ≤ D ∧ -D ≤ 2 * (X - N * D) ∧ (2 * (X - N * D) = D ∨ 2 * (X - N * D) = -D → N % 2 = 0)
theorem rne_nsh (n : Int) {g : Int} (hg : 1 ≤ g) : Rne n (2 ^ g.toNat) (nsh n g) := by
  obtain ⟨k, hk⟩ : ∃ k : Nat, g = k + 1 := ⟨(g - 1).toNat, by omega⟩
  subst hk
  have e1 : ((k : Int) + 1).toNat = k + 1 := by omega
  have e2 : ((k : Int) + 1 - 1).toNat = k := by omega
  have hw := kbt_whole n (k + 1)
  have hr := kbt_rest n (k + 1)
  have hp := p2pos k
  have hs := pow_s k
  unfold Rne nsh
  rw [e1, e2, Int.one_mul, Int.one_mul, kbt_maskF, bitAnd_m1]
  generalize n.fdiv (2 ^ (k + 1)) = q at *
  generalize n.fmod (2 ^ (k + 1)) = r at *
  rw [hs] at *
  generalize (2 : Int) ^ k = h at *
  split
  · rename_i hc
    have e3 : (q + 1) * (2 * h) = q * (2 * h) + 2 * h := by rw [Int.add_mul, Int.one_mul]
    rw [e3]
    omega
  · rename_i hc
    omega
theorem rne_mono {X X' D N N' : Int} (hD : 0 < D) (h : Rne X D N) (h' : Rne X' D N') (hx : X ≤ X') : N ≤ N' := by
  obtain ⟨a1, a2, a3⟩ := h
  obtain ⟨b1, b2, b3⟩ := h'
  by_cases hc : N ≤ N'
  · exact hc
  · exfalso
    have h1 : (N' + 1) * D ≤ N * D := Int.mul_le_mul_of_nonneg_right (by omega) (Int.le_of_lt hD)
    rw [Int.add_mul, Int.one_mul] at h1
    have h2 : N * D = (N' + 1) * D := by rw [Int.add_mul, Int.one_mul]; omega
    have h3 : N = N' + 1 := Int.eq_of_mul_eq_mul_right (by omega) h2
    have h4 := a3 (.inr (by omega))
    have h5 := b3 (.inl (by omega))
    omega
theorem rne_unique {X D N N' : Int} (hD : 0 < D) (h : Rne X D N) (h' : Rne X D N') : N = N' := Int.le_antisymm (rne_mono hD h h' (Int.le_refl _)) (rne_mono hD h' h (Int.le_refl _))
theorem rne_scale {X D N c : Int} (hc : 0 < c) (h : Rne X D N) : Rne (X * c) (D * c) N := by
  obtain ⟨a1, a2, a3⟩ := h
  have e : 2 * (X * c - N * (D * c)) = 2 * (X - N * D) * c := by rw [← Int.mul_assoc N D c, ← Int.sub_mul, Int.mul_assoc]
  unfold Rne
  rw [e, ← Int.neg_mul]
  refine ⟨Int.mul_le_mul_of_nonneg_right a1 (Int.le_of_lt hc), Int.mul_le_mul_of_nonneg_right a2 (Int.le_of_lt hc), fun q => a3 (q.imp (fun q => ?_) fun q => ?_)⟩
  · exact Int.eq_of_mul_eq_mul_right (by omega) q
  · exact Int.eq_of_mul_eq_mul_right (by omega) q
theorem rne_neg {X D N : Int} (h : Rne X D N) : Rne (-X) D (-N) := by
  obtain ⟨a1, a2, a3⟩ := h
  unfold Rne
  rw [Int.neg_mul]
  refine ⟨by omega, by omega, fun q => ?_⟩
  have := a3 (by omega)
  omega
/-- what is told of a rounding: `H` units at the least, fewer than `2 H` -/
def Chr (H X D N : Int) : Prop := 0 < D ∧ H * D ≤ X ∧ X < 2 * (H * D) ∧ Rne X D N
theorem chr_range {H X D N : Int} (c : Chr H X D N) : H ≤ N ∧ N ≤ 2 * H ∧ H * D ≤ N * D ∧ N * D ≤ 2 * (H * D) := by
  obtain ⟨hD, h1, h2, a1, a2, a3⟩ := c
  have k1 : H ≤ N := by
    by_cases hc : H ≤ N
    · exact hc
    · exfalso
      have := Int.mul_le_mul_of_nonneg_right (show N + 1 ≤ H by omega) (Int.le_of_lt hD)
      rw [Int.add_mul, Int.one_mul] at this
      omega
  have k2 : N ≤ 2 * H := by
    by_cases hc : N ≤ 2 * H
    · exact hc
    · exfalso
      have := Int.mul_le_mul_of_nonneg_right (show 2 * H + 1 ≤ N by omega) (Int.le_of_lt hD)
      rw [Int.add_mul, Int.one_mul, Int.mul_assoc] at this
      omega
  refine ⟨k1, k2, Int.mul_le_mul_of_nonneg_right k1 (Int.le_of_lt hD), ?_⟩
  have := Int.mul_le_mul_of_nonneg_right k2 (Int.le_of_lt hD)
  rw [Int.mul_assoc] at this
  exact this
theorem chr_mono {H X D N X' D' N' : Int} (hH : 1 ≤ H) (c : Chr H X D N) (c' : Chr H X' D' N') (hx : X ≤ X') (hd : D = D' ∨ 2 * D ≤ D' ∨ 2 * D' ≤ D) : N * D ≤ N' * D' := by
  have r := chr_range c
  have r' := chr_range c'
  obtain ⟨hD, h1, h2, h3⟩ := c
  obtain ⟨hD', h1', h2', h3'⟩ := c'
  rcases hd with rfl | hd | hd
  · exact Int.mul_le_mul_of_nonneg_right (rne_mono hD h3 h3' hx) (Int.le_of_lt hD)
  · have := Int.mul_le_mul_of_nonneg_left hd (show 0 ≤ H by omega)
    rw [Int.mul_left_comm] at this
    omega
  · exfalso
    have := Int.mul_le_mul_of_nonneg_left hd (show 0 ≤ H by omega)
    rw [Int.mul_left_comm] at this
    omega
theorem chr_scale {H X D N c : Int} (hc : 0 < c) (h : Chr H X D N) : Chr H (X * c) (D * c) N := by
  obtain ⟨hD, h1, h2, h3⟩ := h
  refine ⟨Int.mul_pos hD hc, ?_, ?_, rne_scale hc h3⟩
  · rw [← Int.mul_assoc]; exact Int.mul_le_mul_of_nonneg_right h1 (Int.le_of_lt hc)
  · have := Int.mul_lt_mul_of_pos_right h2 hc
    rw [Int.mul_assoc, Int.mul_assoc] at this
    exact this
theorem odd_unique {o o' : Int} {i j : Nat} (h : o * 2 ^ i = o' * 2 ^ j) (ho : o % 2 = 1) (ho' : o' % 2 = 1) : o = o' ∧ i = j := by
  have key : ∀ (a b : Int) (x d : Nat), a * 2 ^ x = b * 2 ^ (x + d) → a % 2 = 1 → d = 0 ∧ a = b := by
    intro a b x d h ha
    rw [Nat.add_comm, Int.pow_add, ← Int.mul_assoc] at h
    have h1 := Int.eq_of_mul_eq_mul_right (Int.ne_of_gt (p2pos x)) h
    cases d with
    | zero => exact ⟨rfl, by rw [h1, Int.pow_zero, Int.mul_one]⟩
    | succ d =>
      exfalso
      rw [pow_s, Int.mul_left_comm] at h1
      omega
  rcases Nat.le_total i j with hij | hij
  · obtain ⟨d, rfl⟩ := Nat.exists_eq_add_of_le hij
    have := key _ _ _ _ h ho
    exact ⟨this.2, by omega⟩
  · obtain ⟨d, rfl⟩ := Nat.exists_eq_add_of_le hij
    have := key _ _ _ _ h.symm ho'
    exact ⟨this.2.symm, by omega⟩
/-- the value of a mantissa and an exponent, in units of `2 ^ -Z` -/
def V (Z : Nat) (r : Int × Int) : Int := r.1 * 2 ^ (r.2 + Z).toNat
theorem leanP_neg (m e : Int) : leanP (0 - m) e = (0 - (leanP m e).1, (leanP m e).2) := by
  by_cases h : m = 0
  · subst h; simp [leanP]
  · obtain ⟨k, o, e1, e2, e3⟩ := leanP_spec h e
    obtain ⟨k', o', e1', e2', e3'⟩ := leanP_spec (n := 0 - m) (by omega) e
    have := odd_unique (o := 0 - o) (o' := o') (i := k) (j := k') (by rw [← e1', e1, Int.sub_mul, Int.zero_mul]) (by omega) e2'
    rw [e3, e3', ← this.1, this.2]
theorem leanP_V {Z : Nat} {m e : Int} (h : 0 ≤ e + Z) : V Z (leanP m e) = m * 2 ^ (e + Z).toNat := by
  by_cases hm : m = 0
  · subst hm; simp [leanP, V]
  · obtain ⟨k, o, e1, e2, e3⟩ := leanP_spec hm e
    unfold V
    rw [e3]
    dsimp only
    rw [show (e + (k : Int) + Z).toNat = k + (e + Z).toNat by omega, Int.pow_add, ← Int.mul_assoc, ← e1]
/-- a mantissa and an exponent in the form that lean gives -/
def Can (r : Int × Int) : Prop := r = (0, 0) ∨ r.1 % 2 = 1
theorem leanP_can (m e : Int) : Can (leanP m e) := by
  by_cases hm : m = 0
  · subst hm; exact .inl (by simp [leanP])
  · obtain ⟨k, o, e1, e2, e3⟩ := leanP_spec hm e
    rw [e3]
    exact .inr e2
theorem can_eq {Z : Nat} {r q : Int × Int} (hr : Can r) (hq : Can q) (h1 : 0 ≤ r.2 + Z) (h2 : 0 ≤ q.2 + Z) (h : V Z r = V Z q) : r = q := by
  unfold V at h
  have p1 := p2pos (r.2 + Z).toNat
  have p2 := p2pos (q.2 + Z).toNat
  rcases hr with hr | hr <;> rcases hq with hq | hq
  · rw [hr, hq]
  · subst hr
    exfalso
    rw [Int.zero_mul] at h
    rcases Int.mul_eq_zero.mp h.symm with e | e <;> omega
  · subst hq
    exfalso
    rw [Int.zero_mul] at h
    rcases Int.mul_eq_zero.mp h with e | e <;> omega
  · obtain ⟨e1, e2⟩ := odd_unique h hr hq
    exact Prod.ext e1 (by omega)
theorem leanP_exp {m e : Int} (hm : m ≠ 0) : e ≤ (leanP m e).2 := by
  obtain ⟨k, o, e1, e2, e3⟩ := leanP_spec hm e
  rw [e3]
  dsimp only
  omega
end Mine
namespace Mine
theorem sgn_of_mul {n c : Int} (hc : 0 < c) : sgn (n * c) = sgn n := by
  rcases Int.lt_trichotomy n 0 with h | h | h
  · rw [sgn_neg h, sgn_neg (Int.mul_neg_of_neg_of_pos h hc)]
  · rw [h, Int.zero_mul]
  · rw [sgn_pos h, sgn_pos (Int.mul_pos h hc)]
theorem V_bounds {Z : Nat} {m e : Int} (hm : 0 < m) (he : 0 ≤ e + Z) : 2 ^ (sz m - 1 + e + Z).toNat ≤ V Z (m, e) ∧ V Z (m, e) < 2 ^ (sz m + e + Z).toNat := by
  obtain ⟨k, hk, h1, h2⟩ := sz_bounds hm
  unfold V
  dsimp only
  have p := p2pos (e + Z).toNat
  rw [show (sz m - 1 + e + Z).toNat = k + (e + Z).toNat by omega, show (sz m + e + Z).toNat = (k + 1) + (e + Z).toNat by omega, Int.pow_add, Int.pow_add _ (k + 1)]
  exact ⟨Int.mul_le_mul_of_nonneg_right h1 (Int.le_of_lt p), Int.mul_lt_mul_of_pos_right h2 p⟩
theorem cmpM_V {Z : Nat} {m1 e1 m2 e2 : Int} (h1 : 0 < m1) (h2 : 0 < m2) (k1 : 0 ≤ e1 + Z) (k2 : 0 ≤ e2 + Z) : cmpM m1 e1 m2 e2 = sgn (V Z (m1, e1) - V Z (m2, e2)) := by
  have b1 := V_bounds h1 k1
  have b2 := V_bounds h2 k2
  unfold cmpM
  split
  · have hl : mnP e1 e2 ≤ e1 ∧ mnP e1 e2 ≤ e2 ∧ 0 ≤ mnP e1 e2 + Z := by unfold mnP; split <;> omega
    unfold V
    dsimp only
    rw [show (e1 + Z).toNat = (e1 - mnP e1 e2).toNat + (mnP e1 e2 + Z).toNat by omega, show (e2 + Z).toNat = (e2 - mnP e1 e2).toNat + (mnP e1 e2 + Z).toNat by omega, Int.pow_add, Int.pow_add, ← Int.mul_assoc, ← Int.mul_assoc, ← Int.sub_mul, sgn_of_mul (p2pos _)]
  · split
    · have := pow_mono (i := (sz m2 + e2 + Z).toNat) (j := (sz m1 - 1 + e1 + Z).toNat) (by omega)
      rw [sgn_pos (by omega)]
    · have := pow_mono (i := (sz m1 + e1 + Z).toNat) (j := (sz m2 - 1 + e2 + Z).toNat) (by omega)
      rw [sgn_neg (by omega)]
theorem V_sgn {Z : Nat} (m e : Int) : sgn (V Z (m, e)) = sgn m := sgn_of_mul (p2pos _)
theorem sgn_sub_comm (a b : Int) : sgn (a - b) = - sgn (b - a) := by
  rcases Int.lt_trichotomy a b with h | h | h
  · rw [sgn_neg (by omega), sgn_pos (n := b - a) (by omega)]
  · subst h; rw [Int.sub_self]; decide
  · rw [sgn_pos (by omega), sgn_neg (n := b - a) (by omega)]; rfl
theorem V_neg {Z : Nat} (m e : Int) : V Z (0 - m, e) = - V Z (m, e) := by unfold V; dsimp only; rw [Int.zero_sub, Int.neg_mul]
theorem V_sign {Z : Nat} (m e : Int) : (0 < m → 0 < V Z (m, e)) ∧ (m < 0 → V Z (m, e) < 0) ∧ (m = 0 → V Z (m, e) = 0) := by
  have p := p2pos (e + Z).toNat
  refine ⟨fun h => Int.mul_pos h p, fun h => Int.mul_neg_of_neg_of_pos h p, fun h => ?_⟩
  unfold V; dsimp only; rw [h, Int.zero_mul]
theorem cmpR_V {Z : Nat} {m1 e1 m2 e2 : Int} (k1 : 0 ≤ e1 + Z) (k2 : 0 ≤ e2 + Z) : cmpR m1 e1 m2 e2 = sgn (V Z (m1, e1) - V Z (m2, e2)) := by
  obtain ⟨a1, a2, a3⟩ := V_sign (Z := Z) m1 e1
  obtain ⟨b1, b2, b3⟩ := V_sign (Z := Z) m2 e2
  rcases Int.lt_trichotomy m1 0 with h | h | h <;> rcases Int.lt_trichotomy m2 0 with h' | h' | h'
  · unfold cmpR
    rw [if_pos (by rw [sgn_neg h, sgn_neg h']), if_neg (by rw [sgn_neg h]; decide), sgn_neg h]
    have e1' : ab m1 = 0 - m1 := by unfold ab; split <;> omega
    have e2' : ab m2 = 0 - m2 := by unfold ab; split <;> omega
    rw [e1', e2', cmpM_V (Z := Z) (by omega) (by omega) k1 k2, V_neg, V_neg, Int.neg_mul, Int.one_mul, ← sgn_sub_comm]
    congr 1
    omega
  · have := a2 h
    have z := (V_sign (Z := Z) 0 e2).2.2 rfl
    unfold cmpR
    rw [sgn_neg h, h', sgn_zero, if_neg (by decide), if_neg (by decide), sgn_neg (by omega)]
  · have := a2 h; have := b1 h'
    unfold cmpR
    rw [sgn_neg h, sgn_pos h', if_neg (by decide), if_neg (by decide), sgn_neg (by omega)]
  · have := b2 h'
    have z := (V_sign (Z := Z) 0 e1).2.2 rfl
    unfold cmpR
    rw [h, sgn_neg h', sgn_zero, if_neg (by decide), if_pos (by decide), sgn_pos (by omega)]
  · have z := (V_sign (Z := Z) 0 e2).2.2 rfl
    have z1 := (V_sign (Z := Z) 0 e1).2.2 rfl
    unfold cmpR
    rw [h, h', sgn_zero, if_pos rfl, if_pos rfl, z, z1]
    rfl
  · have := b1 h'
    have z := (V_sign (Z := Z) 0 e1).2.2 rfl
    unfold cmpR
    rw [h, sgn_pos h', sgn_zero, if_neg (by decide), if_neg (by decide), sgn_neg (by omega)]
  · have := a1 h; have := b2 h'
    unfold cmpR
    rw [sgn_pos h, sgn_neg h', if_neg (by decide), if_pos (by decide), sgn_pos (by omega)]
  · have := a1 h
    have z := (V_sign (Z := Z) 0 e2).2.2 rfl
    unfold cmpR
    rw [sgn_pos h, h', sgn_zero, if_neg (by decide), if_pos (by decide), sgn_pos (by omega)]
  · unfold cmpR
    rw [if_pos (by rw [sgn_pos h, sgn_pos h']), if_neg (by rw [sgn_pos h]; decide), sgn_pos h, Int.one_mul]
    have e1' : ab m1 = m1 := ab_of_pos h
    have e2' : ab m2 = m2 := ab_of_pos h'
    rw [e1', e2', cmpM_V (Z := Z) h h' k1 k2]
theorem sgn_lt {n : Int} : sgn n < 0 ↔ n < 0 := by
  rcases Int.lt_trichotomy n 0 with h | h | h
  · rw [sgn_neg h]; omega
  · subst h; decide
  · rw [sgn_pos h]; omega
theorem exP_V {Z : Nat} {m e : Int} (k : 0 ≤ e + Z) : V Z (m, e) * (exP m e).2 = (exP m e).1 * 2 ^ Z ∧ 0 < (exP m e).2 := by
  unfold exP V
  dsimp only
  split
  · dsimp only
    refine ⟨?_, by decide⟩
    rw [Int.mul_one, show (e + Z).toNat = e.toNat + Z by omega, Int.pow_add, Int.mul_assoc]
  · dsimp only
    refine ⟨?_, by rw [Int.one_mul]; exact p2pos _⟩
    rw [Int.one_mul, Int.mul_assoc, ← Int.pow_add, show (e + Z).toNat + (0 - e).toNat = Z by omega]
theorem ab_mul {n c : Int} (hc : 0 < c) : ab (n * c) = ab n * c := by
  rcases Int.lt_trichotomy n 0 with h | h | h
  · have := Int.mul_neg_of_neg_of_pos h hc
    unfold ab
    rw [if_pos this, if_pos h, Int.neg_mul]
  · rw [h, Int.zero_mul]; unfold ab; simp
  · have := Int.mul_pos h hc
    rw [ab_of_pos this, ab_of_pos h]
theorem gap_V {Z : Nat} {m e t b : Int} (k : 0 ≤ e + Z) : (gapP m e t b).1 * 2 ^ Z = ab (V Z (m, e) * b - t * 2 ^ Z) * (exP m e).2 ∧ (gapP m e t b).2 = (exP m e).2 * b := by
  obtain ⟨h1, h2⟩ := exP_V (Z := Z) (m := m) k
  refine ⟨?_, rfl⟩
  unfold gapP
  dsimp only
  rw [← ab_mul (p2pos Z), ← ab_mul h2]
  congr 1
  rw [Int.sub_mul, Int.sub_mul]
  congr 1
  · rw [Int.mul_right_comm, ← h1, Int.mul_right_comm]
  · rw [Int.mul_right_comm]
theorem less_V {Z : Nat} {m1 e1 m2 e2 t b : Int} (hb : 0 < b) (k1 : 0 ≤ e1 + Z) (k2 : 0 ≤ e2 + Z) :
    lessP (gapP m1 e1 t b).1 (gapP m1 e1 t b).2 (gapP m2 e2 t b).1 (gapP m2 e2 t b).2 = decide (ab (V Z (m1, e1) * b - t * 2 ^ Z) < ab (V Z (m2, e2) * b - t * 2 ^ Z)) := by
  obtain ⟨g1, d1⟩ := gap_V (Z := Z) (m := m1) (t := t) (b := b) k1
  obtain ⟨g2, d2⟩ := gap_V (Z := Z) (m := m2) (t := t) (b := b) k2
  have l1 := (exP_V (Z := Z) (m := m1) k1).2
  have l2 := (exP_V (Z := Z) (m := m2) k2).2
  have hc := p2pos Z
  unfold lessP
  rw [d1, d2]
  generalize (gapP m1 e1 t b).1 = a1 at *
  generalize (gapP m2 e2 t b).1 = a2 at *
  generalize (exP m1 e1).2 = x1 at *
  generalize (exP m2 e2).2 = x2 at *
  generalize ab (V Z (m1, e1) * b - t * 2 ^ Z) = y1 at *
  generalize ab (V Z (m2, e2) * b - t * 2 ^ Z) = y2 at *
  generalize (2 : Int) ^ Z = c at *
  have hk : 0 < x1 * x2 * b := Int.mul_pos (Int.mul_pos l1 l2) hb
  have q1 : a1 * (x2 * b) * c = y1 * (x1 * x2 * b) := by
    calc a1 * (x2 * b) * c = (a1 * c) * (x2 * b) := Int.mul_right_comm _ _ _
      _ = y1 * x1 * (x2 * b) := by rw [g1]
      _ = y1 * (x1 * x2 * b) := by rw [Int.mul_assoc, Int.mul_assoc]
  have q2 : a2 * (x1 * b) * c = y2 * (x1 * x2 * b) := by
    calc a2 * (x1 * b) * c = (a2 * c) * (x1 * b) := Int.mul_right_comm _ _ _
      _ = y2 * x2 * (x1 * b) := by rw [g2]
      _ = y2 * (x1 * x2 * b) := by rw [Int.mul_assoc, ← Int.mul_assoc x2, Int.mul_comm x2 x1]
  rw [decide_eq_decide]
  constructor
  · intro h
    have := Int.mul_lt_mul_of_pos_right h hc
    rw [q1, q2] at this
    exact Int.lt_of_mul_lt_mul_right this (Int.le_of_lt hk)
  · intro h
    have := Int.mul_lt_mul_of_pos_right h hk
    rw [← q1, ← q2] at this
    exact Int.lt_of_mul_lt_mul_right this (Int.le_of_lt hc)
end Mine
namespace Mine
theorem sticky_core {qn qd k r M H h N : Int} (hq : qn = k * qd + r) (h0 : 0 ≤ r) (h1 : r < qd) (hM : M = 2 * k + (if r = 0 then 0 else 1)) (hlo : H * (4 * h) ≤ M) (hhi : M < 2 * (H * (4 * h))) (hG : 0 < h) (hR : Rne M (4 * h) N) :
    Chr H (2 * qn) ((4 * h) * qd) N := by
  have hd : 0 < qd := by omega
  have e4 : H * (4 * h) = 4 * (H * h) := Int.mul_left_comm _ _ _
  have lo2 : H * (4 * h) ≤ 2 * k := by split at hM <;> omega
  have hi2 : 2 * k + 2 ≤ 2 * (H * (4 * h)) := by split at hM <;> omega
  have m1 := Int.mul_le_mul_of_nonneg_right lo2 (Int.le_of_lt hd)
  have m2 := Int.mul_le_mul_of_nonneg_right hi2 (Int.le_of_lt hd)
  rw [Int.add_mul, Int.mul_assoc 2 (H * (4 * h)) qd, Int.mul_assoc H] at m2
  rw [Int.mul_assoc H] at m1
  rw [Int.mul_assoc 2 k qd] at m1 m2
  refine ⟨Int.mul_pos (by omega) hd, by omega, by omega, ?_⟩
  by_cases hr : r = 0
  · rw [if_pos hr] at hM
    have := rne_scale hd hR
    rw [show M * qd = 2 * qn by rw [hM, hq, hr, Int.add_zero, Int.add_zero, Int.mul_assoc]] at this
    exact this
  · rw [if_neg hr] at hM
    obtain ⟨a1, a2, a3⟩ := hR
    have e5 : N * (4 * h) = 4 * (N * h) := Int.mul_left_comm _ _ _
    have b1 : 2 * k - N * (4 * h) ≤ 2 * h - 2 := by omega
    have b2 : -(2 * h) ≤ 2 * k - N * (4 * h) := by omega
    have n1 := Int.mul_le_mul_of_nonneg_right b1 (Int.le_of_lt hd)
    have n2 := Int.mul_le_mul_of_nonneg_right b2 (Int.le_of_lt hd)
    rw [Int.sub_mul, Int.sub_mul, Int.mul_assoc 2 k qd, Int.mul_assoc N, Int.mul_assoc 2 h qd] at n1
    rw [Int.sub_mul, Int.neg_mul, Int.mul_assoc 2 k qd, Int.mul_assoc N, Int.mul_assoc 2 h qd] at n2
    have e6 : 4 * h * qd = 4 * (h * qd) := Int.mul_assoc _ _ _
    refine ⟨by omega, by omega, fun q => ?_⟩
    exfalso
    omega
theorem leanP_one (N e : Int) : leanP (1 * N) e = leanP N e := by rw [Int.one_mul]
theorem kept_size {P : Nat} {M : Int} (h1 : 2 ^ (P + 1 + 2) ≤ M) (h2 : M < 2 ^ (P + 1 + 4)) : ∃ j : Nat, (j = 1 ∨ j = 2) ∧ sz M = P + 3 + j ∧ 2 ^ P * (4 * 2 ^ j) ≤ M ∧ M < 2 * (2 ^ P * (4 * 2 ^ j)) := by
  have f1 : (2 : Int) ^ (P + 1 + 2) = 8 * 2 ^ P := by rw [Int.pow_add, Int.pow_add]; omega
  have f2 : (2 : Int) ^ (P + 1 + 3) = 16 * 2 ^ P := by rw [Int.pow_add, Int.pow_add]; omega
  have f3 : (2 : Int) ^ (P + 1 + 4) = 32 * 2 ^ P := by rw [Int.pow_add, Int.pow_add]; omega
  have g1 : (2 : Int) ^ P * (4 * 2 ^ 1) = 8 * 2 ^ P := by omega
  have g2 : (2 : Int) ^ P * (4 * 2 ^ 2) = 16 * 2 ^ P := by omega
  by_cases hc : M < 2 ^ (P + 1 + 3)
  · have := sz_unique h1 hc
    refine ⟨1, .inl rfl, by clear h1 h2 hc f1 f2 f3 g1 g2; omega, ?_, ?_⟩
    · rw [g1, ← f1]; exact h1
    · rw [g1, ← Int.mul_assoc, show (2 : Int) * 8 = 16 from rfl, ← f2]; exact hc
  · have := sz_unique (n := M) (k := P + 1 + 3) (Int.not_lt.mp hc) h2
    refine ⟨2, .inr rfl, by clear h1 h2 hc f1 f2 f3 g1 g2; omega, ?_, ?_⟩
    · rw [g2, ← f2]; exact Int.not_lt.mp hc
    · rw [g2, ← Int.mul_assoc, show (2 : Int) * 16 = 32 from rfl, ← f3]; exact h2
theorem scale_a {t : Int} {s Z : Nat} (h : s + 1 ≤ Z) : 2 * (t * 2 ^ s) * 2 ^ (Z - s - 1) = t * 2 ^ Z := by
  rw [Int.mul_left_comm, Int.mul_assoc, ← pow_s, ← Int.pow_add]
  congr 2
  omega
theorem scale_b {b : Int} {i j k : Nat} (h : i + j = k) : (2 : Int) ^ i * b * 2 ^ j = 2 ^ k * b := by rw [Int.mul_right_comm, ← Int.pow_add, h]
theorem scale_c {t : Int} {Z : Nat} (h : 1 ≤ Z) : 2 * t * 2 ^ (Z - 1) = t * 2 ^ Z := by
  rw [Int.mul_comm 2 t, Int.mul_assoc, ← pow_s]
  congr 2
  omega
theorem scale_d {b : Int} {i j k n : Nat} (h : j + (i + k) = n) : (2 : Int) ^ i * (b * 2 ^ j) * 2 ^ k = 2 ^ n * b := by
  rw [Int.mul_left_comm, Int.mul_assoc, Int.mul_right_comm, ← Int.pow_add, ← Int.mul_assoc, ← h]
  rw [Int.mul_assoc, ← Int.pow_add, Int.mul_comm, show i + k + j = j + (i + k) by omega]
theorem exp_a {s : Int} {j Z : Nat} (h : 0 ≤ s) (hz : s + 1 ≤ Z) : 2 + j + (Z - s.toNat - 1) = (0 - s - 1 + ((2 + j : Nat) : Int) + Z).toNat := by omega
theorem exp_b {s : Int} {j Z : Nat} (h : ¬ 0 ≤ s) (hz : 1 ≤ Z) : (0 - s).toNat + (2 + j + (Z - 1)) = (0 - s - 1 + ((2 + j : Nat) : Int) + Z).toNat := by omega
/-- the shape of a rounding of a positive fraction -/
theorem rnd_pos {Z : Nat} {p t b : Int} (ht : 0 < t) (hb : 0 < b) (hp : 2 ≤ p) (hz : shf p t b + 1 ≤ Z) (hz1 : 1 ≤ Z) :
    ∃ N E : Int, rndP p t b = leanP N E ∧ (E = 2 - shf p t b ∨ E = 3 - shf p t b) ∧ Chr (2 ^ (p - 1).toNat) (t * 2 ^ Z) (2 ^ (E + Z).toNat * b) N := by
  obtain ⟨P, hP⟩ : ∃ P : Nat, p = P + 1 := ⟨(p - 1).toNat, by clear ht hb hz hz1; omega⟩
  have hM := bigM_bd (p := p) (t := t) (b := b) (Int.ne_of_gt ht) hb (Int.le_trans (by decide) hp)
  have eP : p.toNat = P + 1 := by clear ht hb hz hz1 hM; omega
  have eP1 : (p - 1).toNat = P := by clear ht hb hz hz1 hM; omega
  rw [eP] at hM
  rw [eP1]
  obtain ⟨j, hj, hs, hlo, hhi⟩ := kept_size hM.1 hM.2
  have hpos : 0 < bigM p t b := Int.lt_of_lt_of_le (p2pos _) hM.1
  have hg : sz (bigM p t b) - p = (2 + j : Nat) := by clear ht hb hz hz1 hM hlo hhi hpos; omega
  have hMe := bigM_eq (p := p) (t := t) hb
  have hqd := qden_pos (p := p) (t := t) hb
  have hdm := Int.mul_ediv_add_emod (qnum p t b) (qden p t b)
  have hr0 := Int.emod_nonneg (qnum p t b) (Int.ne_of_gt hqd)
  have hr1 := Int.emod_lt_of_pos (qnum p t b) hqd
  have e4j : (4 : Int) * 2 ^ j = 2 ^ (2 + j) := by rw [Int.pow_add]; rfl
  refine ⟨nsh (bigM p t b) (sz (bigM p t b) - p), 0 - shf p t b - 1 + (sz (bigM p t b) - p), ?_, ?_, ?_⟩
  · unfold rndP
    rw [if_neg (Int.ne_of_gt ht), sgn_pos ht, Int.one_mul]
    unfold shrP
    rw [if_neg (by rw [hg]; clear ht hb hz hz1 hM hlo hhi hpos hMe hqd hdm hr0 hr1; omega), sgn_pos hpos, Int.one_mul, ab_of_pos hpos]
  · rw [hg]
    clear ht hb hz hz1 hM hlo hhi hpos hMe hqd hdm hr0 hr1 hs hg
    omega
  · have hR := rne_nsh (bigM p t b) (g := sz (bigM p t b) - p) (by rw [hg]; clear ht hb hz hz1 hM hlo hhi hpos hMe hqd hdm hr0 hr1; omega)
    rw [hg, Int.toNat_natCast, ← e4j] at hR
    have C := sticky_core (qn := qnum p t b) (qd := qden p t b) (by rw [Int.mul_comm, hdm]) hr0 hr1 hMe hlo hhi (p2pos j) hR
    rw [hg]
    by_cases h : 0 ≤ shf p t b
    · have c := chr_scale (c := 2 ^ (Z - (shf p t b).toNat - 1)) (p2pos _) C
      unfold qnum qden at c
      rw [if_pos h, if_pos h, ab_of_pos ht, e4j] at c
      rw [scale_a (by clear ht hb hp hM hlo hhi hpos hMe hqd hdm hr0 hr1 hR C c; omega), scale_b (exp_a h hz)] at c
      exact c
    · have c := chr_scale (c := 2 ^ (Z - 1)) (p2pos _) C
      unfold qnum qden at c
      rw [if_neg h, if_neg h, ab_of_pos ht, e4j] at c
      rw [scale_c hz1, scale_d (exp_b h hz1)] at c
      exact c
theorem ab_neg' (t : Int) : ab (0 - t) = ab t := by unfold ab; split <;> split <;> omega
theorem sgn_neg' (t : Int) : sgn (0 - t) = 0 - sgn t := by
  rcases Int.lt_trichotomy t 0 with h | h | h
  · rw [sgn_neg h, sgn_pos (by omega)]; rfl
  · subst h; decide
  · rw [sgn_pos h, sgn_neg (by omega)]; rfl
theorem sz_neg' (t : Int) : sz (0 - t) = sz t := by rw [Int.zero_sub]; exact sz_neg t
theorem shrP_neg (p m e : Int) : shrP p (0 - m) e = (0 - (shrP p m e).1, (shrP p m e).2) := by
  unfold shrP
  rw [sz_neg', ab_neg', sgn_neg']
  split
  · exact leanP_neg _ _
  · rw [Int.sub_mul, Int.zero_mul]; exact leanP_neg _ _
theorem rnd_neg (p t b : Int) : rndP p (0 - t) b = (0 - (rndP p t b).1, (rndP p t b).2) := by
  by_cases h : t = 0
  · subst h
    show rndP p 0 b = _
    rw [rnd_z]
    rfl
  · have e1 : shf p (0 - t) b = shf p t b := by unfold shf; rw [sz_neg']
    have e2 : bigM p (0 - t) b = bigM p t b := by unfold bigM qnum qden; rw [e1, ab_neg']
    unfold rndP
    rw [if_neg (by omega), if_neg h, e1, e2, sgn_neg', Int.sub_mul, Int.zero_mul]
    exact shrP_neg _ _ _
end Mine
namespace Mine
theorem rnd_can (p t b : Int) : Can (rndP p t b) := by
  unfold rndP
  split
  · exact .inl rfl
  · unfold shrP
    split <;> exact leanP_can _ _
theorem shf_neg (p t b : Int) : shf p (0 - t) b = shf p t b := by unfold shf; rw [sz_neg']
theorem rnd_exp {Z : Nat} {p t b : Int} (hb : 0 < b) (hp : 2 ≤ p) (hz : shf p t b + 1 ≤ Z) (hz1 : 1 ≤ Z) : 0 ≤ (rndP p t b).2 + Z := by
  have key : ∀ t, 0 < t → shf p t b + 1 ≤ Z → 0 ≤ (rndP p t b).2 + Z := by
    intro t ht hz
    obtain ⟨N, E, e, hE, c⟩ := rnd_pos ht hb hp hz hz1
    have hN := (chr_range c).1
    have hh := p2pos (p - 1).toNat
    have := leanP_exp (m := N) (e := E) (by omega)
    rw [e]
    omega
  rcases Int.lt_trichotomy t 0 with h | h | h
  · have := key (0 - t) (by omega) (by rw [shf_neg]; exact hz)
    rw [rnd_neg] at this
    exact this
  · subst h; rw [rnd_z]; dsimp only; omega
  · exact key t h hz
theorem rnd_V_pos {Z : Nat} {p t b : Int} (ht : 0 < t) (hb : 0 < b) (hp : 2 ≤ p) (hz : shf p t b + 1 ≤ Z) (hz1 : 1 ≤ Z) : 0 < V Z (rndP p t b) := by
  obtain ⟨N, E, e, hE, c⟩ := rnd_pos ht hb hp hz hz1
  have hN := (chr_range c).1
  have hh := p2pos (p - 1).toNat
  rw [e, leanP_V (by omega)]
  exact Int.mul_pos (by omega) (p2pos _)
theorem pow_cmp (i j : Nat) : (2 : Int) ^ i = 2 ^ j ∨ 2 * (2 : Int) ^ i ≤ 2 ^ j ∨ 2 * (2 : Int) ^ j ≤ 2 ^ i := by
  rcases Nat.lt_trichotomy i j with h | h | h
  · have := pow_mono (i := i + 1) (j := j) (by omega)
    rw [pow_s] at this
    exact .inr (.inl this)
  · exact .inl (by rw [h])
  · have := pow_mono (i := j + 1) (j := i) (by omega)
    rw [pow_s] at this
    exact .inr (.inr this)
/-- two shapes whose fractions stand in order stand in order themselves -/
theorem chr_le {H X1 X2 N1 N2 b1 b2 : Int} {i j : Nat} (hH : 1 ≤ H) (h1 : 0 < b1) (h2 : 0 < b2) (c1 : Chr H X1 (2 ^ i * b1) N1) (c2 : Chr H X2 (2 ^ j * b2) N2) (hx : X1 * b2 ≤ X2 * b1) : N1 * 2 ^ i ≤ N2 * 2 ^ j := by
  have d1 := chr_scale h2 c1
  have d2 := chr_scale h1 c2
  have hb : 0 < b1 * b2 := Int.mul_pos h1 h2
  have e1 : (2 : Int) ^ i * b1 * b2 = 2 ^ i * (b1 * b2) := Int.mul_assoc _ _ _
  have e2 : (2 : Int) ^ j * b2 * b1 = 2 ^ j * (b1 * b2) := by rw [Int.mul_assoc, Int.mul_comm b2 b1]
  rw [e1] at d1
  rw [e2] at d2
  have := chr_mono hH d1 d2 hx (by
    rcases pow_cmp i j with h | h | h
    · exact .inl (by rw [h])
    · refine .inr (.inl ?_)
      rw [← Int.mul_assoc]
      exact Int.mul_le_mul_of_nonneg_right h (Int.le_of_lt hb)
    · refine .inr (.inr ?_)
      rw [← Int.mul_assoc]
      exact Int.mul_le_mul_of_nonneg_right h (Int.le_of_lt hb))
  have this' : N1 * 2 ^ i * (b1 * b2) ≤ N2 * 2 ^ j * (b1 * b2) := by
    rw [Int.mul_assoc, Int.mul_assoc N2]
    exact this
  exact Int.le_of_mul_le_mul_right this' hb
theorem rnd_mono_pos {Z : Nat} {p t1 b1 t2 b2 : Int} (h1 : 0 < t1) (h2 : 0 < t2) (hb1 : 0 < b1) (hb2 : 0 < b2) (hp : 2 ≤ p) (hz1 : shf p t1 b1 + 1 ≤ Z) (hz2 : shf p t2 b2 + 1 ≤ Z) (hz : 1 ≤ Z) (hx : t1 * b2 ≤ t2 * b1) :
    V Z (rndP p t1 b1) ≤ V Z (rndP p t2 b2) := by
  obtain ⟨N1, E1, e1, hE1, c1⟩ := rnd_pos h1 hb1 hp hz1 hz
  obtain ⟨N2, E2, e2, hE2, c2⟩ := rnd_pos h2 hb2 hp hz2 hz
  rw [e1, e2, leanP_V (by omega), leanP_V (by omega)]
  refine chr_le (by have := p2pos (p - 1).toNat; omega) hb1 hb2 c1 c2 ?_
  rw [Int.mul_right_comm, Int.mul_right_comm t2]
  exact Int.mul_le_mul_of_nonneg_right hx (Int.le_of_lt (p2pos _))
theorem V_rnd_neg {Z : Nat} (p t b : Int) : V Z (rndP p (0 - t) b) = - V Z (rndP p t b) := by
  rw [rnd_neg]
  exact V_neg _ _
theorem rnd_mono {Z : Nat} {p t1 b1 t2 b2 : Int} (hb1 : 0 < b1) (hb2 : 0 < b2) (hp : 2 ≤ p) (hz1 : shf p t1 b1 + 1 ≤ Z) (hz2 : shf p t2 b2 + 1 ≤ Z) (hz : 1 ≤ Z) (hx : t1 * b2 ≤ t2 * b1) :
    V Z (rndP p t1 b1) ≤ V Z (rndP p t2 b2) := by
  have zero : ∀ b, V Z (rndP p 0 b) = 0 := fun b => by rw [rnd_z]; unfold V; simp
  have neg : ∀ {t b}, 0 < b → t < 0 → shf p t b + 1 ≤ Z → V Z (rndP p t b) < 0 := fun {t b} hb ht hz' => by
    have := rnd_V_pos (Z := Z) (p := p) (t := 0 - t) (by omega) hb hp (by rw [shf_neg]; exact hz') hz
    rw [V_rnd_neg] at this
    omega
  rcases Int.lt_trichotomy t1 0 with a | a | a <;> rcases Int.lt_trichotomy t2 0 with c | c | c
  · have := rnd_mono_pos (Z := Z) (p := p) (t1 := 0 - t2) (b1 := b2) (t2 := 0 - t1) (b2 := b1) (by omega) (by omega) hb2 hb1 hp (by rw [shf_neg]; exact hz2) (by rw [shf_neg]; exact hz1) hz (by rw [Int.sub_mul, Int.sub_mul]; omega)
    rw [V_rnd_neg, V_rnd_neg] at this
    omega
  · have := neg hb1 a hz1
    subst c
    rw [zero]
    omega
  · have := neg hb1 a hz1
    have := rnd_V_pos (Z := Z) c hb2 hp hz2 hz
    omega
  · subst a
    have := Int.mul_neg_of_neg_of_pos c hb1
    omega
  · subst a; subst c; rw [zero, zero]; exact Int.le_refl _
  · subst a
    have := rnd_V_pos (Z := Z) c hb2 hp hz2 hz
    rw [zero]
    omega
  · have := Int.mul_neg_of_neg_of_pos c hb1
    have := Int.mul_pos a hb2
    omega
  · subst c
    have := Int.mul_pos a hb2
    omega
  · exact rnd_mono_pos a c hb1 hb2 hp hz1 hz2 hz hx
theorem rnd_eq {Z : Nat} {p t1 b1 t2 b2 : Int} (hb1 : 0 < b1) (hb2 : 0 < b2) (hp : 2 ≤ p) (hz1 : shf p t1 b1 + 1 ≤ Z) (hz2 : shf p t2 b2 + 1 ≤ Z) (hz : 1 ≤ Z) (hx : t1 * b2 = t2 * b1) : rndP p t1 b1 = rndP p t2 b2 :=
  can_eq (rnd_can _ _ _) (rnd_can _ _ _) (rnd_exp hb1 hp hz1 hz) (rnd_exp hb2 hp hz2 hz)
    (Int.le_antisymm (rnd_mono hb1 hb2 hp hz1 hz2 hz (Int.le_of_eq hx)) (rnd_mono hb2 hb1 hp hz2 hz1 hz (Int.le_of_eq hx.symm)))
/-- what lean does to the sizes -/
theorem lean_bd {n e : Int} {K : Nat} (h : -(2 ^ K) < n ∧ n < 2 ^ K) (hn : n ≠ 0) : -(2 ^ K) < (leanP n e).1 ∧ (leanP n e).1 < 2 ^ K ∧ e ≤ (leanP n e).2 ∧ (leanP n e).2 < e + K := by
  obtain ⟨k, o, e1, e2, e3⟩ := leanP_spec hn e
  rw [e3]
  dsimp only
  have hk := p2pos k
  have a1 : (0 < o → o * 1 ≤ o * 2 ^ k ∧ 1 * 2 ^ k ≤ o * 2 ^ k) := fun ho => ⟨Int.mul_le_mul_of_nonneg_left (by omega) (by omega), Int.mul_le_mul_of_nonneg_right (by omega) (by omega)⟩
  have a2 : (o < 0 → (0 - o) * 1 ≤ (0 - o) * 2 ^ k ∧ 1 * 2 ^ k ≤ (0 - o) * 2 ^ k) := fun ho => ⟨Int.mul_le_mul_of_nonneg_left (by omega) (by omega), Int.mul_le_mul_of_nonneg_right (by omega) (by omega)⟩
  have e4 : (0 - o) * 2 ^ k = 0 - n := by rw [Int.sub_mul, Int.zero_mul, e1]
  rw [e4] at a2
  rw [← e1] at a1
  have hkK : (2 : Int) ^ k < 2 ^ K := by
    rcases Int.lt_trichotomy o 0 with ho | ho | ho
    · have := a2 ho; omega
    · omega
    · have := a1 ho; omega
  have := pow_lt_inv hkK
  refine ⟨?_, ?_, by omega, by omega⟩
  · rcases Int.lt_trichotomy o 0 with ho | ho | ho
    · have := a2 ho; omega
    · omega
    · omega
  · rcases Int.lt_trichotomy o 0 with ho | ho | ho
    · omega
    · omega
    · have := a1 ho; omega
/-- the parts of a mantissa and an exponent -/
theorem exP_bd {m e : Int} {A B C : Nat} (hm : -(2 ^ A) < m ∧ m < 2 ^ A) (h1 : -(B : Int) ≤ e) (h2 : e ≤ C) : -(2 ^ (A + C)) < (exP m e).1 ∧ (exP m e).1 < 2 ^ (A + C) ∧ 0 < (exP m e).2 ∧ (exP m e).2 ≤ 2 ^ B := by
  unfold exP
  split
  · dsimp only
    have p1 := p2pos e.toNat
    have hB := p2pos B
    have m1 := Int.mul_lt_mul_of_pos_right hm.1 p1
    have m2 := Int.mul_lt_mul_of_pos_right hm.2 p1
    rw [← Int.pow_add] at m2
    rw [Int.neg_mul, ← Int.pow_add] at m1
    have := pow_mono (i := A + e.toNat) (j := A + C) (by omega)
    omega
  · dsimp only
    have p1 := p2pos (0 - e).toNat
    have := pow_mono (i := (0 - e).toNat) (j := B) (by omega)
    have := pow_mono (i := A) (j := A + C) (by omega)
    omega
theorem sh_a {p u v s : Int} (hp : 2 ≤ p ∧ p ≤ 15) (hu : 1 ≤ u ∧ u ≤ 10) (hv : 1 ≤ v ∧ v ≤ 20) (hs : s = p + 2 + u - v) : s + 1 ≤ (200 : Nat) ∧ -p - 9 ≤ 2 - s ∧ 3 - s ≤ 20 - p := by omega
theorem sh_b {p s E e : Int} (hp : 2 ≤ p) (h1 : -p - 9 ≤ 2 - s) (h2 : 3 - s ≤ 20 - p) (hE : E = 2 - s ∨ E = 3 - s) (h3 : E ≤ e) (h4 : e < E + (p.toNat + 1 : Nat)) : -p - 9 ≤ e ∧ e ≤ 20 := by omega
theorem sh_c {N H P P1 : Int} (h : 0 < H) (h1 : H ≤ N) (h2 : N ≤ 2 * H) (e1 : P = 2 * H) (e2 : P1 = 2 * P) : (-P1 < N ∧ N < P1) ∧ N ≠ 0 := by omega
theorem sh_d {x y P : Int} (h : y = 0 - x) (h1 : 0 < y) (h2 : y < P) : -P < x ∧ x < P := by omega
theorem sh_e {x P : Int} (h1 : 0 < x) (h2 : x < P) : -P < x ∧ x < P := by omega
/-- a rounding's size -/
theorem rnd_bd {p t b : Int} (hp : 2 ≤ p) (hp2 : p ≤ 15) (ht : -1048576 < t ∧ t < 1048576) (hb : 0 < b ∧ b < 1024) :
    -(2 ^ (p.toNat + 1)) < (rndP p t b).1 ∧ (rndP p t b).1 < 2 ^ (p.toNat + 1) ∧ -p - 9 ≤ (rndP p t b).2 ∧ (rndP p t b).2 ≤ 20 := by
  have key : ∀ t, 0 < t → t < 1048576 → 0 < (rndP p t b).1 ∧ (rndP p t b).1 < 2 ^ (p.toNat + 1) ∧ -p - 9 ≤ (rndP p t b).2 ∧ (rndP p t b).2 ≤ 20 := by
    clear ht
    intro t h0 h1
    have hb2 : 1 ≤ sz b ∧ sz b ≤ 10 := ⟨sz_pos (Int.ne_of_gt hb.1), (sz_le_iff' (k := 10)).mpr ⟨Int.lt_trans (by decide) hb.1, hb.2⟩⟩
    have ht2 : 1 ≤ sz t ∧ sz t ≤ 20 := ⟨sz_pos (Int.ne_of_gt h0), (sz_le_iff' (k := 20)).mpr ⟨Int.lt_trans (by decide) h0, h1⟩⟩
    have a := sh_a ⟨hp, hp2⟩ hb2 ht2 (show shf p t b = p + 2 + sz b - sz t from rfl)
    obtain ⟨N, E, e, hE, c⟩ := rnd_pos (Z := 200) h0 hb.1 hp a.1 (by decide)
    have r := chr_range c
    have hh := p2pos (p - 1).toNat
    have e1 := pow_s (p - 1).toNat
    rw [show (p - 1).toNat + 1 = p.toNat by clear hb hb2 ht2 a hE c r hh e1 e h0 h1; omega] at e1
    have d := sh_c hh r.1 r.2.1 e1 (pow_s p.toNat)
    have hpos := rnd_V_pos (Z := 200) h0 hb.1 hp a.1 (by decide)
    rw [e] at hpos ⊢
    have l := lean_bd (n := N) (e := E) (K := p.toNat + 1) d.1 d.2
    refine ⟨?_, l.2.1, sh_b hp a.2.1 a.2.2 hE l.2.2.1 l.2.2.2⟩
    obtain ⟨q1, q2, q3⟩ := V_sign (Z := 200) (leanP N E).1 (leanP N E).2
    have hpos' : 0 < V 200 ((leanP N E).1, (leanP N E).2) := hpos
    rcases Int.lt_trichotomy (leanP N E).1 0 with h | h | h
    · exact absurd (Int.lt_trans hpos' (q2 h)) (by decide)
    · exact absurd ((q3 h) ▸ hpos') (by decide)
    · exact h
  rcases Int.lt_trichotomy t 0 with h | h | h
  · have k := key (0 - t) (by clear key; omega) (by clear key; omega)
    rw [rnd_neg] at k
    have d := sh_d rfl k.1 k.2.1
    exact ⟨d.1, d.2, k.2.2⟩
  · subst h
    rw [rnd_z]
    have := p2pos (p.toNat + 1)
    clear key
    dsimp only
    omega
  · have k := key t h ht.2
    have d := sh_e k.1 k.2.1
    exact ⟨d.1, d.2, k.2.2⟩
end Mine
namespace Mine
theorem fm_facts {p N E : Int} (hp : 2 ≤ p) (h1 : 2 ^ (p - 1).toNat ≤ N) (h2 : N ≤ 2 * 2 ^ (p - 1).toNat) :
    0 < (leanP N E).1 ∧ (leanP N E).1 % 2 = 1 ∧ sz (leanP N E).1 ≤ p ∧ (N < 2 * 2 ^ (p - 1).toNat → fmP p (leanP N E).1 (leanP N E).2 = (N, E)) ∧
      (N = 2 * 2 ^ (p - 1).toNat → fmP p (leanP N E).1 (leanP N E).2 = (2 ^ (p - 1).toNat, E + 1)) ∧ (sz (leanP N E).1 = p → N < 2 * 2 ^ (p - 1).toNat ∧ N % 2 = 1) := by
  have hH := p2pos (p - 1).toNat
  obtain ⟨k, o, e1, e2, e3⟩ := leanP_spec (n := N) (by omega) E
  have hk := p2pos k
  have ho : 0 < o := by
    rcases Int.lt_trichotomy o 0 with h | h | h
    · have := Int.mul_neg_of_neg_of_pos h hk; omega
    · omega
    · exact h
  rw [e3]
  dsimp only
  have hs := sz_mul_pow ho k
  rw [← e1] at hs
  by_cases hc : N < 2 * 2 ^ (p - 1).toNat
  · rw [← pow_s] at hc
    have hN := sz_unique h1 hc
    rw [pow_s] at hc
    have h0 := sz_nonneg o
    refine ⟨ho, e2, by omega, fun _ => ?_, fun h => by omega, fun h => ⟨hc, ?_⟩⟩
    · unfold fmP
      rw [ab_of_pos ho, show (p - sz o).toNat = k by omega, ← e1]
      exact Prod.ext rfl (by show E + (k : Int) - (p - sz o) = E; omega)
    · have hk0 : k = 0 := by omega
      rw [hk0, Int.pow_zero, Int.mul_one] at e1
      omega
  · have hN : N = 2 * 2 ^ (p - 1).toNat := by omega
    have hu := odd_unique (o := o) (o' := 1) (i := k) (j := (p - 1).toNat + 1) (by rw [← e1, hN, pow_s, Int.one_mul]) e2 (by decide)
    have s1 : sz 1 = 1 := by decide
    rw [hu.1, s1]
    refine ⟨by decide, by decide, by omega, fun h => by omega, fun _ => ?_, fun h => by omega⟩
    unfold fmP
    rw [s1, ab_of_pos (by decide), Int.one_mul]
    exact Prod.ext rfl (by show E + (k : Int) - (p - 1) = E + 1; omega)
theorem abv_pos {p m e : Int} (h : 0 < m) : abvP p m e = leanP ((fmP p m e).1 + 1) (fmP p m e).2 := by
  unfold abvP
  rw [if_pos h]
  unfold farP
  rw [sgn_pos h, Int.one_mul]
theorem bel_pos {p m e : Int} (h : 0 < m) : belP p m e = (if (fmP p m e).1 = 2 ^ (p - 1).toNat then leanP (2 * (fmP p m e).1 - 1) ((fmP p m e).2 - 1) else leanP ((fmP p m e).1 - 1) (fmP p m e).2) := by
  have e1 : fmP p (0 - m) e = fmP p m e := by unfold fmP; rw [ab_neg', sz_neg']
  unfold belP abvP
  rw [if_neg (by omega)]
  unfold neaP
  rw [e1, sgn_neg (by omega), Int.one_mul]
  split
  · rw [show (-1 : Int) * (2 * (fmP p m e).1 - 1) = 0 - (2 * (fmP p m e).1 - 1) by omega, leanP_neg]
    exact Prod.ext (by dsimp only; omega) rfl
  · rw [show (-1 : Int) * ((fmP p m e).1 - 1) = 0 - ((fmP p m e).1 - 1) by omega, leanP_neg]
    exact Prod.ext (by dsimp only; omega) rfl
theorem ab_le {n m : Int} (h1 : n ≤ m) (h2 : -n ≤ m) : ab n ≤ ab m := by unfold ab; split <;> split <;> omega
theorem ab_le' {n m : Int} (h1 : m ≤ n) (h2 : m ≤ -n) : ab n ≤ ab m := by unfold ab; split <;> split <;> omega
theorem ab_lt {n m : Int} (h1 : n < m) (h2 : -n < m) : ab n < ab m := by unfold ab; split <;> split <;> omega
theorem ab_lt' {n m : Int} (h1 : m < n) (h2 : m < -n) : ab n < ab m := by unfold ab; split <;> split <;> omega
theorem nl_up {X Y D A : Int} (a1 : 2 * (X - Y) ≤ D) (a2 : -D ≤ 2 * (X - Y)) (h : Y + D ≤ A) : Y - X ≤ A - X ∧ -(Y - X) ≤ A - X := by omega
theorem nl_dn {X Y D B : Int} (a1 : 2 * (X - Y) ≤ D) (a2 : -D ≤ 2 * (X - Y)) (h : B ≤ Y - D) : B - X ≤ Y - X ∧ B - X ≤ -(Y - X) := by omega
theorem nl_half {X Y D B : Int} (h0 : 0 < D) (a1 : 2 * (X - Y) ≤ D) (h : 2 * B = 2 * Y - D) (h2 : Y ≤ X) : B - X < Y - X ∧ B - X < -(Y - X) := by omega
theorem nl_tie {X Y D : Int} (a1 : 2 * (X - Y) ≤ D) (a2 : -D ≤ 2 * (X - Y)) (h : ¬ (2 * (X - Y) = D ∨ 2 * (X - Y) = -D)) : 2 * (X - Y) < D ∧ -D < 2 * (X - Y) := by omega
theorem nl_ups {X Y D A : Int} (a1 : 2 * (X - Y) < D) (a2 : -D < 2 * (X - Y)) (h : Y + D ≤ A) : Y - X < A - X ∧ -(Y - X) < A - X := by omega
theorem nl_dns {X Y D B : Int} (a1 : 2 * (X - Y) < D) (a2 : -D < 2 * (X - Y)) (h : B ≤ Y - D) : B - X < Y - X ∧ B - X < -(Y - X) := by omega
theorem nl_fa {X Y D3 Y3 A : Int} (h3 : 0 < D3) (a1 : 2 * (X - Y) ≤ 8 * D3) (z2 : -D3 ≤ 2 * (X - Y3)) (h : Y + 8 * D3 ≤ A) : Y3 < A := by omega
theorem nl_fb {X Y D3 Y3 B : Int} (h3 : 0 < D3) (a2 : -(8 * D3) ≤ 2 * (X - Y)) (z1 : 2 * (X - Y3) ≤ D3) (h : B ≤ Y - 8 * D3) : B < Y3 := by omega
theorem nl_fh {X Y D3 Y3 B : Int} (h3 : 0 < D3) (z1 : 2 * (X - Y3) ≤ D3) (h : 2 * B = 2 * Y - 8 * D3) (h2 : Y ≤ X) : B < Y3 := by omega
/-- the nearest neighbour, on the line: `Y` is what was told, `A` and `B` its neighbours above and below, `Y3` what is told with three bits more -/
theorem near_lin {X Y D D3 Y3 A B : Int} (h3 : 0 < D3) (hD : D = 8 * D3) (a1 : 2 * (X - Y) ≤ D) (a2 : -D ≤ 2 * (X - Y)) (z1 : 2 * (X - Y3) ≤ D3) (z2 : -D3 ≤ 2 * (X - Y3))
    (vA : A = Y + D ∨ A = Y + 2 * D) (vB : B = Y - D ∨ (2 * B = 2 * Y - D ∧ Y ≤ X)) : (Y3 < A ∧ B < Y3) ∧ (ab (Y - X) ≤ ab (A - X) ∧ ab (Y - X) ≤ ab (B - X)) ∧ (¬ (2 * (X - Y) = D ∨ 2 * (X - Y) = -D) → ab (Y - X) < ab (A - X) ∧ ab (Y - X) < ab (B - X)) := by
  subst hD
  have hA : Y + 8 * D3 ≤ A := by
    clear a1 a2 z1 z2 vB
    omega
  have up := nl_up a1 a2 hA
  rcases vB with hB | ⟨hB, hx⟩
  · have dn := nl_dn a1 a2 (Int.le_of_eq hB)
    exact ⟨⟨nl_fa h3 a1 z2 hA, nl_fb h3 a2 z1 (Int.le_of_eq hB)⟩, ⟨ab_le up.1 up.2, ab_le' dn.1 dn.2⟩, fun h => by
      have t := nl_tie a1 a2 h
      have u := nl_ups t.1 t.2 hA
      have d := nl_dns t.1 t.2 (Int.le_of_eq hB)
      exact ⟨ab_lt u.1 u.2, ab_lt' d.1 d.2⟩⟩
  · have dn := nl_half (Int.mul_pos (by decide) h3) a1 hB hx
    exact ⟨⟨nl_fa h3 a1 z2 hA, nl_fh h3 z1 hB hx⟩, ⟨ab_le up.1 up.2, ab_le' (Int.le_of_lt dn.1) (Int.le_of_lt dn.2)⟩, fun h => by
      have t := nl_tie a1 a2 h
      have u := nl_ups t.1 t.2 hA
      exact ⟨ab_lt u.1 u.2, ab_lt' dn.1 dn.2⟩⟩
/-- of two units of the same number, one counted with three bits more: the one is eight times the other -/
theorem eighth {H b X : Int} {i j : Nat} (hH : 0 < H) (hb : 0 < b) (g1 : H * (2 ^ i * b) ≤ X) (g2 : X < 2 * (H * (2 ^ i * b))) (g3 : 8 * H * (2 ^ j * b) ≤ X) (g4 : X < 2 * (8 * H * (2 ^ j * b))) : i = j + 3 := by
  have x1 : H * b * 2 ^ i = H * (2 ^ i * b) := by rw [Int.mul_assoc, Int.mul_comm b]
  have x2 : 8 * (H * b * 2 ^ j) = 8 * H * (2 ^ j * b) := by rw [Int.mul_assoc H, Int.mul_comm b, Int.mul_assoc 8]
  rw [← x1] at g1 g2
  rw [← x2] at g3 g4
  have hk : 0 < H * b := Int.mul_pos hH hb
  have k1 : H * b * 2 ^ i < H * b * 2 ^ (j + 4) := by
    rw [Int.pow_add, ← Int.mul_assoc (H * b)]
    clear x1 x2 hk
    generalize H * b * 2 ^ i = u at *
    generalize H * b * 2 ^ j = v at *
    have e : (2 : Int) ^ 4 = 16 := by decide
    rw [e]
    omega
  have k2 : H * b * 2 ^ (j + 2) < H * b * 2 ^ i := by
    rw [Int.pow_add, ← Int.mul_assoc (H * b)]
    clear x1 x2 hk k1
    generalize H * b * 2 ^ i = u at *
    generalize H * b * 2 ^ j = v at *
    have e : (2 : Int) ^ 2 = 4 := by decide
    rw [e]
    omega
  have j1 := pow_lt_inv (Int.lt_of_mul_lt_mul_left k1 (Int.le_of_lt hk))
  have j2 := pow_lt_inv (Int.lt_of_mul_lt_mul_left k2 (Int.le_of_lt hk))
  clear k1 k2 x1 x2 g1 g2 g3 g4
  omega
theorem nb_facts {N : Int} (h : 2 ≤ N ∧ N ≤ 4096) : ((-8192 < N + 1 ∧ N + 1 < 8192) ∧ N + 1 ≠ 0) ∧ ((-8192 < N - 1 ∧ N - 1 < 8192) ∧ N - 1 ≠ 0) ∧ ((-8192 < 2 * N - 1 ∧ 2 * N - 1 < 8192) ∧ 2 * N - 1 ≠ 0) := by omega
theorem eb_facts {E : Int} (h : -21 ≤ E ∧ E ≤ 18) : (-22 ≤ E ∧ E ≤ 19) ∧ (-22 ≤ E - 1 ∧ E - 1 ≤ 19) ∧ (-22 ≤ E + 1 ∧ E + 1 ≤ 19) := by omega
theorem e_range {p E t b s : Int} (hp : 2 ≤ p ∧ p ≤ 12) (hb : 1 ≤ b ∧ b ≤ 10) (ht : 1 ≤ t ∧ t ≤ 20) (hs : s = p + 2 + b - t) (hE : E = 2 - s ∨ E = 3 - s) : -21 ≤ E ∧ E ≤ 18 := by omega
theorem lean_bd13 {n e : Int} (h1 : -8192 < n ∧ n < 8192) (h2 : n ≠ 0) (h3 : -22 ≤ e ∧ e ≤ 19) : (-16384 < (leanP n e).1 ∧ (leanP n e).1 < 16384) ∧ -24 ≤ (leanP n e).2 ∧ (leanP n e).2 ≤ 33 := by
  have l := lean_bd (n := n) (e := e) (K := 13) h1 h2
  have e13 : (2 : Int) ^ 13 = 8192 := by decide
  rw [e13] at l
  omega
structure NearV (X b : Int) (p : Int) (R A B R3 : Int × Int) : Prop where
  pos : 0 < R.1
  odd : R.1 % 2 = 1
  size : sz R.1 ≤ p
  la : ab (V 200 R * b - X) ≤ ab (V 200 A * b - X)
  lb : ab (V 200 R * b - X) ≤ ab (V 200 B * b - X)
  sa : sz R.1 = p → ab (V 200 R * b - X) < ab (V 200 A * b - X)
  sb : sz R.1 = p → ab (V 200 R * b - X) < ab (V 200 B * b - X)
  cb : V 200 B < V 200 R3
  ca : V 200 R3 < V 200 A
  ba : (-16384 < A.1 ∧ A.1 < 16384) ∧ -24 ≤ A.2 ∧ A.2 ≤ 33
  bb : (-16384 < B.1 ∧ B.1 < 16384) ∧ -24 ≤ B.2 ∧ B.2 ≤ 33
theorem z_of {E s : Int} (hE : E = 2 - s ∨ E = 3 - s) (h : s + 1 ≤ (200 : Nat)) : 0 ≤ E + (200 : Nat) := by omega
theorem p_two {p : Int} (h : 2 ≤ p) : (p + 3 - 1).toNat = 3 + (p - 1).toNat := by omega
theorem dbl_le {H : Int} (h : H ≤ 2048) : 2 * H ≤ 4096 := by omega
theorem toNat_p {E : Int} (h : 0 ≤ E - 1 + (200 : Nat)) : (E + (200 : Nat)).toNat = (E - 1 + (200 : Nat)).toNat + 1 := by omega
theorem toNat_s {E : Int} (h : 0 ≤ E + (200 : Nat)) : (E + 1 + (200 : Nat)).toNat = (E + (200 : Nat)).toNat + 1 := by omega
theorem near_V {p t b : Int} (hp : 2 ≤ p ∧ p ≤ 12) (ht : 0 < t ∧ t < 1048576) (hb : 0 < b ∧ b < 1024) :
    NearV (t * 2 ^ 200) b p (rndP p t b) (abvP p (rndP p t b).1 (rndP p t b).2) (belP p (rndP p t b).1 (rndP p t b).2) (rndP (p + 3) t b) := by
  have hb2 : 1 ≤ sz b ∧ sz b ≤ 10 := ⟨sz_pos (by omega), (sz_le_iff' (k := 10)).mpr ⟨by omega, by omega⟩⟩
  have ht2 : 1 ≤ sz t ∧ sz t ≤ 20 := ⟨sz_pos (by omega), (sz_le_iff' (k := 20)).mpr ⟨by omega, by omega⟩⟩
  have hsh : shf p t b = p + 2 + sz b - sz t := rfl
  have hsh3 : shf (p + 3) t b = p + 3 + 2 + sz b - sz t := rfl
  have k1 : shf p t b + 1 ≤ (200 : Nat) := by clear hsh3 ht hb; omega
  have k3 : shf (p + 3) t b + 1 ≤ (200 : Nat) := by clear hsh ht hb; omega
  obtain ⟨N, E, e, hE, c⟩ := rnd_pos (Z := 200) ht.1 hb.1 hp.1 k1 (by decide)
  obtain ⟨N3, E3, e3, hE3, c3⟩ := rnd_pos (Z := 200) (p := p + 3) ht.1 hb.1 (Int.le_trans hp.1 (Int.le_add_of_nonneg_right (by decide))) k3 (by decide)
  have z1' := z_of hE k1
  have z3' := z_of hE3 k3
  have r := chr_range c
  have hH := p2pos (p - 1).toNat
  have hH2 : 2 * (1 : Int) ≤ 2 ^ (p - 1).toNat := by
    have := pow_mono (i := 0 + 1) (j := (p - 1).toNat) (by omega)
    rw [pow_s] at this
    exact this
  have hH12 : (2 : Int) ^ (p - 1).toNat ≤ 2048 := pow_mono (i := (p - 1).toNat) (j := 11) (by omega)
  have hH3 : (2 : Int) ^ (p + 3 - 1).toNat = 8 * 2 ^ (p - 1).toNat := by
    rw [p_two hp.1, Int.pow_add]; rfl
  obtain ⟨f1, f2, f3, f4, f5, f6⟩ := fm_facts (E := E) hp.1 r.1 r.2.1
  rw [hH3] at c3
  rw [e, e3, abv_pos f1, bel_pos f1]
  have hu := p2pos (E + (200 : Nat)).toNat
  have hu3 := p2pos (E3 + (200 : Nat)).toNat
  -- the finer unit is an eighth
  have hi : (E + (200 : Nat)).toNat = (E3 + (200 : Nat)).toNat + 3 := eighth hH hb.1 c.2.1 c.2.2.1 c3.2.1 c3.2.2.1
  have hu8 : (2 : Int) ^ (E + (200 : Nat)).toNat = 8 * 2 ^ (E3 + (200 : Nat)).toNat := by rw [hi, Int.pow_add, Int.mul_comm]; rfl
  obtain ⟨hD, d1, d2, a1, a2, a3⟩ := c
  obtain ⟨hD3, _, _, z1, z2, _⟩ := c3
  have hD8 : 2 ^ (E + (200 : Nat)).toNat * b = 8 * (2 ^ (E3 + (200 : Nat)).toNat * b) := by rw [hu8, Int.mul_assoc]
  have vR : V 200 (leanP N E) * b = N * (2 ^ (E + (200 : Nat)).toNat * b) := by rw [leanP_V z1', Int.mul_assoc]
  have v3 : V 200 (leanP N3 E3) * b = N3 * (2 ^ (E3 + (200 : Nat)).toNat * b) := by rw [leanP_V z3', Int.mul_assoc]
  clear z1' z3' k1 k3
  have cancel : ∀ x y : Int, x * b < y * b → x < y := fun x y h => Int.lt_of_mul_lt_mul_right h (Int.le_of_lt hb.1)
  generalize hX : t * 2 ^ 200 = X at *
  clear hi hu8 hu3 hu hX
  have hZ : ∀ e : Int, -22 ≤ e → 0 ≤ e + (200 : Nat) := fun e h => by omega
  -- all that is told of the three, once the neighbours are known
  have fin : ∀ (A B : Int × Int), (V 200 A * b = N * (2 ^ (E + (200 : Nat)).toNat * b) + 2 ^ (E + (200 : Nat)).toNat * b ∨ V 200 A * b = N * (2 ^ (E + (200 : Nat)).toNat * b) + 2 * (2 ^ (E + (200 : Nat)).toNat * b)) →
      (V 200 B * b = N * (2 ^ (E + (200 : Nat)).toNat * b) - 2 ^ (E + (200 : Nat)).toNat * b ∨ (2 * (V 200 B * b) = 2 * (N * (2 ^ (E + (200 : Nat)).toNat * b)) - 2 ^ (E + (200 : Nat)).toNat * b ∧ N * (2 ^ (E + (200 : Nat)).toNat * b) ≤ X)) →
      ((-16384 < A.1 ∧ A.1 < 16384) ∧ -24 ≤ A.2 ∧ A.2 ≤ 33) → ((-16384 < B.1 ∧ B.1 < 16384) ∧ -24 ≤ B.2 ∧ B.2 ≤ 33) → NearV X b p (leanP N E) A B (leanP N3 E3) := by
    intro A B hA hB bA bB
    have nl := near_lin (X := X) hD3 hD8 a1 a2 z1 z2 hA hB
    rw [← vR, ← v3] at nl
    have hnt : sz (leanP N E).1 = p → ¬ (2 * (X - V 200 (leanP N E) * b) = 2 ^ (E + (200 : Nat)).toNat * b ∨ 2 * (X - V 200 (leanP N E) * b) = -(2 ^ (E + (200 : Nat)).toNat * b)) := fun h q => by
      rw [vR] at q
      have q1 := a3 q
      have q2 := (f6 h).2
      rw [q1] at q2
      exact absurd q2 (by decide)
    exact ⟨f1, f2, f3, nl.2.1.1, nl.2.1.2, fun h => (nl.2.2 (hnt h)).1, fun h => (nl.2.2 (hnt h)).2, cancel _ _ nl.1.2, cancel _ _ nl.1.1, bA, bB⟩
  have hE2 := e_range hp hb2 ht2 hsh hE
  have eb := eb_facts hE2
  have hN1 := r.1
  have hN2 := r.2.1
  have r2 := r.2.1
  clear hE hE3 hsh hsh3 ht2 hb2 r hH3 v3 vR a1 a2 a3 z1 z2 hD hD3 hD8 cancel f1 f2 f3 f6
  generalize hH0 : (2 : Int) ^ (p - 1).toNat = H at *
  have hNb : 2 ≤ N ∧ N ≤ 4096 := ⟨Int.le_trans hH2 hN1, Int.le_trans hN2 (dbl_le hH12)⟩
  have nbN := nb_facts hNb
  have nbH := nb_facts (N := H) ⟨hH2, Int.le_trans hH12 (by decide)⟩
  by_cases hc : N < 2 * H
  · rw [f4 hc]
    dsimp only
    have vA : V 200 (leanP (N + 1) E) * b = N * (2 ^ (E + (200 : Nat)).toNat * b) + 2 ^ (E + (200 : Nat)).toNat * b := by
      rw [leanP_V (hZ E (Int.le_trans (by decide) hE2.1)), Int.mul_assoc, Int.add_mul, Int.one_mul]
    by_cases hN : N = H
    · rw [if_pos hN]
      have vB : 2 * (V 200 (leanP (2 * N - 1) (E - 1)) * b) = 2 * (N * (2 ^ (E + (200 : Nat)).toNat * b)) - 2 ^ (E + (200 : Nat)).toNat * b := by
        rw [leanP_V (hZ (E - 1) eb.2.1.1), toNat_p (hZ (E - 1) eb.2.1.1), pow_s, Int.mul_assoc (2 * N - 1), Int.mul_assoc 2, Int.sub_mul, Int.one_mul, Int.mul_assoc 2 N, Int.mul_left_comm N 2]
        clear fin
        generalize N * (2 ^ (E - 1 + (200 : Nat)).toNat * b) = x
        generalize 2 ^ (E - 1 + (200 : Nat)).toNat * b = y
        omega
      rw [← hN] at d1
      exact fin _ _ (.inl vA) (.inr ⟨vB, d1⟩) (lean_bd13 nbN.1.1 nbN.1.2 eb.1) (lean_bd13 (hN ▸ nbH.2.2.1) (hN ▸ nbH.2.2.2) eb.2.1)
    · rw [if_neg hN]
      have vB : V 200 (leanP (N - 1) E) * b = N * (2 ^ (E + (200 : Nat)).toNat * b) - 2 ^ (E + (200 : Nat)).toNat * b := by
        rw [leanP_V (hZ E (Int.le_trans (by decide) hE2.1)), Int.mul_assoc, Int.sub_mul, Int.one_mul]
      exact fin _ _ (.inl vA) (.inl vB) (lean_bd13 nbN.1.1 nbN.1.2 eb.1) (lean_bd13 nbN.2.1.1 nbN.2.1.2 eb.1)
  · have hN : N = 2 * H := Int.le_antisymm hN2 (Int.not_lt.mp hc)
    rw [f5 hN]
    dsimp only
    rw [if_pos rfl]
    have vA : V 200 (leanP (H + 1) (E + 1)) * b = N * (2 ^ (E + (200 : Nat)).toNat * b) + 2 * (2 ^ (E + (200 : Nat)).toNat * b) := by
      rw [leanP_V (hZ (E + 1) eb.2.2.1), toNat_s (hZ E (Int.le_trans (by decide) hE2.1)), pow_s, Int.mul_assoc, Int.mul_assoc 2, Int.add_mul, Int.one_mul, hN, Int.mul_assoc 2, Int.mul_left_comm _ 2]
    have vB : V 200 (leanP (2 * H - 1) (E + 1 - 1)) * b = N * (2 ^ (E + (200 : Nat)).toNat * b) - 2 ^ (E + (200 : Nat)).toNat * b := by
      rw [← hN, Int.add_sub_cancel, leanP_V (hZ E (Int.le_trans (by decide) hE2.1)), Int.mul_assoc, Int.sub_mul, Int.one_mul]
    exact fin _ _ (.inr vA) (.inl vB) (lean_bd13 nbH.1.1 nbH.1.2 eb.2.2) (lean_bd13 nbH.2.2.1 nbH.2.2.2 (by rw [Int.add_sub_cancel]; exact eb.1))
end Mine
namespace Mine
theorem exP_neg (m e : Int) : exP (0 - m) e = (0 - (exP m e).1, (exP m e).2) := by
  unfold exP
  split
  · exact Prod.ext (by dsimp only; rw [Int.sub_mul, Int.zero_mul]) rfl
  · rfl
/-- lean of a whole number -/
theorem lean_whole (n : Int) : (leanP n 0).1 * 2 ^ (leanP n 0).2.toNat = n ∧ 0 ≤ (leanP n 0).2 := by
  by_cases h : n = 0
  · subst h; decide
  · have h1 := leanP_V (Z := 0) (m := n) (e := 0) (by decide)
    unfold V at h1
    refine ⟨?_, leanP_exp h⟩
    simpa using h1
theorem lean_whole_bd {n : Int} (h : -8192 < n ∧ n < 8192) : (-16384 < (leanP n 0).1 ∧ (leanP n 0).1 < 16384) ∧ (leanP n 0).2 ≤ 100 := by
  by_cases hn : n = 0
  · subst hn; decide
  · have := lean_bd (n := n) (e := 0) (K := 13) (by omega) hn
    omega
structure FlF (m e : Int) (r : Int × Int) (v : Int) : Prop where
  val : r.1 * 2 ^ r.2.toNat = v
  m1 : -16384 < r.1 ∧ r.1 < 16384
  e1 : 0 ≤ r.2 ∧ r.2 ≤ 100
theorem fl_facts {m e : Int} (hm : -8192 < m ∧ m < 8192) (he : e ≤ 60) : FlF m e (flP m e) ((exP m e).1.fdiv (exP m e).2) := by
  unfold flP exP
  by_cases h : 0 ≤ e
  · rw [if_pos h, if_pos h]
    exact ⟨by dsimp only; rw [Int.fdiv_eq_ediv_of_nonneg _ (by decide), Int.ediv_one], by dsimp only; omega, by dsimp only; omega⟩
  · rw [if_neg h, if_neg h]
    dsimp only
    rw [Int.one_mul]
    have hf := fdiv_bd m (0 - e).toNat
    have hb : -8192 < m.fdiv (2 ^ (0 - e).toNat) ∧ m.fdiv (2 ^ (0 - e).toNat) < 8192 := by omega
    have h1 := lean_whole (m.fdiv (2 ^ (0 - e).toNat))
    have h2 := lean_whole_bd hb
    exact ⟨h1.1, h2.1, h1.2, h2.2⟩
theorem cl_facts {m e : Int} (hm : -8192 < m ∧ m < 8192) (he : e ≤ 60) : FlF m e (clP m e) (0 - (0 - (exP m e).1).fdiv (exP m e).2) := by
  obtain ⟨h1, h2, h3⟩ := fl_facts (m := 0 - m) (e := e) (by omega) he
  rw [exP_neg] at h1
  dsimp only at h1
  unfold clP
  exact ⟨by dsimp only; rw [Int.sub_mul, Int.zero_mul, h1], by dsimp only; omega, h3⟩
theorem exP_sign (m e : Int) : 0 ≤ (exP m e).1 ↔ 0 ≤ m := by
  unfold exP
  split
  · dsimp only
    have p := p2pos e.toNat
    constructor
    · intro h
      by_cases hc : 0 ≤ m
      · exact hc
      · have := Int.mul_neg_of_neg_of_pos (show m < 0 by omega) p
        omega
    · exact fun h => Int.mul_nonneg h (Int.le_of_lt p)
  · exact Iff.rfl
theorem rne_sgn (m : Int) {g : Int} (hg : 1 ≤ g) : Rne m (2 ^ g.toNat) (sgn m * nsh (ab m) g) := by
  have h := rne_nsh (ab m) hg
  have hp := p2pos g.toNat
  rcases Int.lt_trichotomy m 0 with c | c | c
  · have h2 := rne_neg h
    have e : ab m = -m := by unfold ab; rw [if_pos c]
    rw [sgn_neg c]
    rw [e] at h2 ⊢
    rw [Int.neg_neg] at h2
    rw [show -1 * nsh (-m) g = -nsh (-m) g by omega]
    exact h2
  · subst c
    rw [sgn_zero, Int.zero_mul]
    refine ⟨?_, ?_, fun _ => rfl⟩ <;> rw [Int.zero_mul] <;> omega
  · rw [sgn_pos c, Int.one_mul]
    rw [ab_of_pos c] at h ⊢
    exact h
theorem fdiv_rest (m : Int) (k : Nat) : 0 ≤ m - m.fdiv (2 ^ k) * 2 ^ k ∧ m - m.fdiv (2 ^ k) * 2 ^ k < 2 ^ k := by
  have h1 := kbt_whole m k
  have h2 := kbt_rest m k
  omega
theorem ro_bd {m : Int} (hm : -8192 < m ∧ m < 8192) (g : Int) (hg : 1 ≤ g) : -8192 < sgn m * nsh (ab m) g ∧ sgn m * nsh (ab m) g < 8192 := by
  have hr := rne_sgn m hg
  have hp : (2 : Int) ^ 1 ≤ 2 ^ g.toNat := pow_mono (by omega)
  obtain ⟨a1, a2, _⟩ := hr
  generalize sgn m * nsh (ab m) g = N at *
  generalize (2 : Int) ^ g.toNat = D at *
  constructor
  · by_cases hc : -8192 < N
    · exact hc
    · exfalso
      have := Int.mul_le_mul_of_nonneg_right (show N ≤ -8192 by omega) (show 0 ≤ D by omega)
      omega
  · by_cases hc : N < 8192
    · exact hc
    · exfalso
      have := Int.mul_le_mul_of_nonneg_right (show 8192 ≤ N by omega) (show 0 ≤ D by omega)
      omega
theorem fmod2 (n : Int) : n.fmod 2 = n % 2 := Int.fmod_eq_emod_of_nonneg _ (by decide)
structure RoF (m e : Int) : Prop where
  m1 : -16384 < (roP m e).1 ∧ (roP m e).1 < 16384
  e1 : 0 ≤ (roP m e).2 ∧ (roP m e).2 ≤ 100
  rv : 2 * ((exP m e).1 - (exP m e).1.fdiv (exP m e).2 * (exP m e).2) < (exP m e).2 ∨ (2 * ((exP m e).1 - (exP m e).1.fdiv (exP m e).2 * (exP m e).2) = (exP m e).2 ∧ ((exP m e).1.fdiv (exP m e).2).fmod 2 = 0) →
    (roP m e).1 * 2 ^ (roP m e).2.toNat = (exP m e).1.fdiv (exP m e).2
  rw : ¬ (2 * ((exP m e).1 - (exP m e).1.fdiv (exP m e).2 * (exP m e).2) < (exP m e).2 ∨ (2 * ((exP m e).1 - (exP m e).1.fdiv (exP m e).2 * (exP m e).2) = (exP m e).2 ∧ ((exP m e).1.fdiv (exP m e).2).fmod 2 = 0)) →
    (roP m e).1 * 2 ^ (roP m e).2.toNat = (exP m e).1.fdiv (exP m e).2 + 1
theorem ro_facts {m e : Int} (hm : -8192 < m ∧ m < 8192) (he : e ≤ 60) : RoF m e := by
  by_cases h : 0 ≤ e
  · have e1 : roP m e = (m, e) := by unfold roP; rw [if_pos h]
    have e2 : exP m e = (m * 2 ^ e.toNat, 1) := by unfold exP; rw [if_pos h]
    refine ⟨by rw [e1]; dsimp only; omega, by rw [e1]; dsimp only; omega, fun _ => ?_, fun q => ?_⟩
    · rw [e1, e2]; dsimp only; rw [Int.fdiv_eq_ediv_of_nonneg _ (by decide), Int.ediv_one]
    · exfalso
      rw [e2] at q
      dsimp only at q
      rw [Int.fdiv_eq_ediv_of_nonneg _ (by decide), Int.ediv_one, Int.mul_one, Int.sub_self] at q
      exact q (.inl (by decide))
  · have e1 : roP m e = leanP (sgn m * nsh (ab m) (0 - e)) 0 := by unfold roP; rw [if_neg h]
    have e2 : exP m e = (m, 2 ^ (0 - e).toNat) := by unfold exP; rw [if_neg h, Int.one_mul]
    have hb := ro_bd hm (0 - e) (by omega)
    have h1 := lean_whole (sgn m * nsh (ab m) (0 - e))
    have h2 := lean_whole_bd hb
    have hr := rne_sgn m (g := 0 - e) (by omega)
    have hf := fdiv_rest m (0 - e).toNat
    have hp := p2pos (0 - e).toNat
    refine ⟨by rw [e1]; exact h2.1, by rw [e1]; exact ⟨h1.2, h2.2⟩, fun q => ?_, fun q => ?_⟩
    · rw [e1, h1.1]
      rw [e2] at q ⊢
      dsimp only at q ⊢
      rw [fmod2] at q
      refine rne_unique hp hr ⟨by omega, by omega, fun z => by omega⟩
    · rw [e1, h1.1]
      rw [e2] at q ⊢
      dsimp only at q ⊢
      rw [fmod2] at q
      refine rne_unique hp hr ?_
      have x : (m.fdiv (2 ^ (0 - e).toNat) + 1) * 2 ^ (0 - e).toNat = m.fdiv (2 ^ (0 - e).toNat) * 2 ^ (0 - e).toNat + 2 ^ (0 - e).toNat := by rw [Int.add_mul, Int.one_mul]
      refine ⟨by rw [x]; omega, by rw [x]; omega, fun z => ?_⟩
      rw [x] at z
      omega
end Mine
namespace Mine
structure NearF (p t b : Int) : Prop where
  nz : (rndP p t b).1 ≠ 0
  size : sz (rndP p t b).1 ≤ p
  odd : (rndP p t b).1.fmod 2 = 1
  mb : -8192 < (rndP p t b).1 ∧ (rndP p t b).1 < 8192
  eb : -40 ≤ (rndP p t b).2 ∧ (rndP p t b).2 ≤ 40
  am : -16384 < (abvP p (rndP p t b).1 (rndP p t b).2).1 ∧ (abvP p (rndP p t b).1 (rndP p t b).2).1 < 16384
  ae : -60 ≤ (abvP p (rndP p t b).1 (rndP p t b).2).2 ∧ (abvP p (rndP p t b).1 (rndP p t b).2).2 ≤ 60
  bm : -16384 < (belP p (rndP p t b).1 (rndP p t b).2).1 ∧ (belP p (rndP p t b).1 (rndP p t b).2).1 < 16384
  be : -60 ≤ (belP p (rndP p t b).1 (rndP p t b).2).2 ∧ (belP p (rndP p t b).1 (rndP p t b).2).2 ≤ 60
  gb : -18446744073709551616 < (gapP (rndP p t b).1 (rndP p t b).2 t b).1 ∧ (gapP (rndP p t b).1 (rndP p t b).2 t b).1 < 18446744073709551616
  gab : -18446744073709551616 < (gapP (abvP p (rndP p t b).1 (rndP p t b).2).1 (abvP p (rndP p t b).1 (rndP p t b).2).2 t b).1 ∧ (gapP (abvP p (rndP p t b).1 (rndP p t b).2).1 (abvP p (rndP p t b).1 (rndP p t b).2).2 t b).1 < 18446744073709551616
  gbb : -18446744073709551616 < (gapP (belP p (rndP p t b).1 (rndP p t b).2).1 (belP p (rndP p t b).1 (rndP p t b).2).2 t b).1 ∧ (gapP (belP p (rndP p t b).1 (rndP p t b).2).1 (belP p (rndP p t b).1 (rndP p t b).2).2 t b).1 < 18446744073709551616
  fm : -65536 < (rndP (p + 3) t b).1 ∧ (rndP (p + 3) t b).1 < 65536
  fe : -60 ≤ (rndP (p + 3) t b).2 ∧ (rndP (p + 3) t b).2 ≤ 60
  la : lessP (gapP (abvP p (rndP p t b).1 (rndP p t b).2).1 (abvP p (rndP p t b).1 (rndP p t b).2).2 t b).1 (gapP (abvP p (rndP p t b).1 (rndP p t b).2).1 (abvP p (rndP p t b).1 (rndP p t b).2).2 t b).2 (gapP (rndP p t b).1 (rndP p t b).2 t b).1 (gapP (rndP p t b).1 (rndP p t b).2 t b).2 = false
  lb : lessP (gapP (belP p (rndP p t b).1 (rndP p t b).2).1 (belP p (rndP p t b).1 (rndP p t b).2).2 t b).1 (gapP (belP p (rndP p t b).1 (rndP p t b).2).1 (belP p (rndP p t b).1 (rndP p t b).2).2 t b).2 (gapP (rndP p t b).1 (rndP p t b).2 t b).1 (gapP (rndP p t b).1 (rndP p t b).2 t b).2 = false
  ga : sz (rndP p t b).1 = p → lessP (gapP (rndP p t b).1 (rndP p t b).2 t b).1 (gapP (rndP p t b).1 (rndP p t b).2 t b).2 (gapP (abvP p (rndP p t b).1 (rndP p t b).2).1 (abvP p (rndP p t b).1 (rndP p t b).2).2 t b).1 (gapP (abvP p (rndP p t b).1 (rndP p t b).2).1 (abvP p (rndP p t b).1 (rndP p t b).2).2 t b).2 = true
  gb' : sz (rndP p t b).1 = p → lessP (gapP (rndP p t b).1 (rndP p t b).2 t b).1 (gapP (rndP p t b).1 (rndP p t b).2 t b).2 (gapP (belP p (rndP p t b).1 (rndP p t b).2).1 (belP p (rndP p t b).1 (rndP p t b).2).2 t b).1 (gapP (belP p (rndP p t b).1 (rndP p t b).2).1 (belP p (rndP p t b).1 (rndP p t b).2).2 t b).2 = true
  cb : cmpR (belP p (rndP p t b).1 (rndP p t b).2).1 (belP p (rndP p t b).1 (rndP p t b).2).2 (rndP (p + 3) t b).1 (rndP (p + 3) t b).2 < 0
  ca : cmpR (rndP (p + 3) t b).1 (rndP (p + 3) t b).2 (abvP p (rndP p t b).1 (rndP p t b).2).1 (abvP p (rndP p t b).1 (rndP p t b).2).2 < 0
theorem abv_neg (p m e : Int) : abvP p (0 - m) e = (0 - (belP p m e).1, (belP p m e).2) := by
  unfold belP
  exact Prod.ext (by dsimp only; omega) rfl
theorem bel_neg (p m e : Int) : belP p (0 - m) e = (0 - (abvP p m e).1, (abvP p m e).2) := by
  unfold belP
  rw [show 0 - (0 - m) = m by omega]
theorem gap_neg (m e t b : Int) : gapP (0 - m) e (0 - t) b = gapP m e t b := by
  unfold gapP
  rw [exP_neg]
  dsimp only
  rw [show (0 - (exP m e).1) * b - (0 - t) * (exP m e).2 = 0 - ((exP m e).1 * b - t * (exP m e).2) by rw [Int.sub_mul, Int.sub_mul, Int.zero_mul, Int.zero_mul]; omega, ab_neg']
theorem cmpR_neg (m1 e1 m2 e2 : Int) : cmpR (0 - m1) e1 (0 - m2) e2 = cmpR m2 e2 m1 e1 := by
  have k1 : 0 ≤ e1 + (e1.natAbs + e2.natAbs : Nat) := by omega
  have k2 : 0 ≤ e2 + (e1.natAbs + e2.natAbs : Nat) := by omega
  rw [cmpR_V k1 k2, cmpR_V k2 k1, V_neg, V_neg]
  congr 1
  omega
theorem gap_bd {m e t b : Int} (hm : -16384 < m ∧ m < 16384) (he : -24 ≤ e ∧ e ≤ 33) (ht : -1048576 < t ∧ t < 1048576) (hb : 0 < b ∧ b < 1024) :
    -18446744073709551616 < (gapP m e t b).1 ∧ (gapP m e t b).1 < 18446744073709551616 := by
  obtain ⟨x1, x2, x3, x4⟩ := exP_bd (A := 14) (B := 24) (C := 33) (m := m) (e := e) hm (by omega) (by omega)
  unfold gapP
  dsimp only
  generalize (exP m e).1 = h at *
  generalize (exP m e).2 = l at *
  have y1 : h * b ≤ 2 ^ (14 + 33) * 1024 := by
    have a := Int.mul_le_mul_of_nonneg_right (Int.le_of_lt x2) (Int.le_of_lt hb.1)
    have c := Int.mul_le_mul_of_nonneg_left (Int.le_of_lt hb.2) (show (0 : Int) ≤ 2 ^ (14 + 33) by decide)
    omega
  have y2 : -(2 ^ (14 + 33) * 1024) ≤ h * b := by
    have a := Int.mul_le_mul_of_nonneg_right (Int.le_of_lt x1) (Int.le_of_lt hb.1)
    have c := Int.mul_le_mul_of_nonneg_left (Int.le_of_lt hb.2) (show (0 : Int) ≤ 2 ^ (14 + 33) by decide)
    rw [Int.neg_mul] at a
    omega
  have y3 : t * l ≤ 1048576 * 2 ^ 24 := by
    have a := Int.mul_le_mul_of_nonneg_right (Int.le_of_lt ht.2) (Int.le_of_lt x3)
    have c := Int.mul_le_mul_of_nonneg_left x4 (show (0 : Int) ≤ 1048576 by decide)
    omega
  have y4 : -(1048576 * 2 ^ 24) ≤ t * l := by
    have a := Int.mul_le_mul_of_nonneg_right (Int.le_of_lt ht.1) (Int.le_of_lt x3)
    have c := Int.mul_le_mul_of_nonneg_left x4 (show (0 : Int) ≤ 1048576 by decide)
    rw [Int.neg_mul] at a
    omega
  have e1 : (2 : Int) ^ (14 + 33) = 140737488355328 := by decide
  have e2 : (2 : Int) ^ 24 = 16777216 := by decide
  rw [e1] at y1 y2
  rw [e2] at y3 y4
  have w := ab_fact (h * b - t * l)
  omega
theorem w13 {x P : Int} (h1 : -P < x ∧ x < P) (h : P ≤ 8192) : (-8192 < x ∧ x < 8192) ∧ (-18446744073709551616 < x ∧ x < 18446744073709551616) := by omega
theorem e20 {x p : Int} (hp : p ≤ 12) (h1 : -p - 9 ≤ x) (h2 : x ≤ 20) : (-40 ≤ x ∧ x ≤ 60) ∧ (-10000 ≤ x ∧ x ≤ 10000) ∧ 0 ≤ x + (200 : Nat) ∧ -((21 : Nat) : Int) ≤ x ∧ x ≤ ((20 : Nat) : Int) := by omega
theorem t20 {t : Int} (h : -1048576 < t ∧ t < 1048576) : (-1099511627776 < t ∧ t < 1099511627776) ∧ (-1099511627776 < 0 - t ∧ 0 - t < 1099511627776) := by omega
theorem b10 {b : Int} (h : 0 < b ∧ b < 1024) : 0 < b ∧ b < 1099511627776 := by omega
theorem p15 {p : Int} (h : 2 ≤ p ∧ p ≤ 12) : p ≤ 15 ∧ (2 ≤ p ∧ p ≤ 20) ∧ p.toNat + 1 ≤ 13 := by omega
theorem x40 {x : Int} (h1 : -8589934592 < x) (h2 : x < 8589934592) : -1099511627776 < x ∧ x < 1099511627776 := by omega
theorem l40 {x : Int} (h1 : 0 < x) (h2 : x ≤ 2097152) : 0 < x ∧ x < 1099511627776 := by omega
theorem y28 {t u : Int} (h : -1048576 < t ∧ t < 1048576) (hu : 0 < u ∧ u ≤ 256) : -1099511627776 < t * u ∧ t * u < 1099511627776 := by
  have a := Int.mul_le_mul_of_nonneg_right (Int.le_of_lt h.2) (Int.le_of_lt hu.1)
  have b := Int.mul_le_mul_of_nonneg_right (Int.le_of_lt h.1) (Int.le_of_lt hu.1)
  rw [Int.neg_mul] at b
  omega
theorem sgn_le0 {a b : Int} (h : a ≤ b) : sgn (a - b) ≤ 0 := by
  rcases Int.lt_or_eq_of_le h with q | q
  · rw [sgn_neg (by omega)]; decide
  · rw [q, Int.sub_self]; decide
theorem sgn_ge0 {a b : Int} (h : b ≤ a) : 0 ≤ sgn (a - b) := by
  rcases Int.lt_or_eq_of_le h with q | q
  · rw [sgn_pos (by omega)]; decide
  · rw [q, Int.sub_self]; decide
theorem neg_way {x : Int} (h : x ≤ 0) : ¬ x * (0 - 1) < 0 := by omega
theorem pos_way {x : Int} (h : 0 ≤ x) : ¬ x * (1 - 0) < 0 := by omega
theorem lt_no {a b : Int} (h : a < b) : ¬ b < a := by omega
theorem p3 {p : Int} (h : 2 ≤ p ∧ p ≤ 12) : 2 ≤ p + 3 ∧ p + 3 ≤ 15 ∧ (p + 3).toNat + 1 ≤ 16 := by omega
theorem w16 {x P : Int} (h1 : -P < x ∧ x < P) (h : P ≤ 65536) : -65536 < x ∧ x < 65536 := by omega
theorem e20n {x p : Int} (hp : p ≤ 12) (h1 : -p - 9 ≤ x) (h2 : x ≤ 20) : (-40 ≤ x ∧ x ≤ 40) ∧ (-24 ≤ x ∧ x ≤ 33) ∧ 0 ≤ x + (200 : Nat) := by omega
theorem e20m {x p : Int} (hp : p ≤ 12) (h1 : -(p + 3) - 9 ≤ x) (h2 : x ≤ 20) : (-60 ≤ x ∧ x ≤ 60) ∧ 0 ≤ x + (200 : Nat) := by omega
theorem e33 {x : Int} (h : -24 ≤ x ∧ x ≤ 33) : (-60 ≤ x ∧ x ≤ 60) ∧ 0 ≤ x + (200 : Nat) := by omega
theorem near_pos {p t b : Int} (hp : 2 ≤ p ∧ p ≤ 12) (ht : 0 < t ∧ t < 1048576) (hb : 0 < b ∧ b < 1024) : NearF p t b := by
  obtain ⟨n1, n2, n3, n4, n5, n6, n7, n8, n9, n10, n11⟩ := near_V hp ht hb
  have t0 : -1048576 < t ∧ t < 1048576 := ⟨Int.lt_trans (by decide) ht.1, ht.2⟩
  have hp15 := p15 hp
  have hp3 := p3 hp
  have hr := rnd_bd hp.1 hp15.1 t0 hb (t := t)
  have hr3 := rnd_bd (p := p + 3) hp3.1 hp3.2.1 t0 hb (t := t)
  have hP : (2 : Int) ^ (p.toNat + 1) ≤ 2 ^ 13 := pow_mono hp15.2.2
  have hP3 : (2 : Int) ^ ((p + 3).toNat + 1) ≤ 2 ^ 16 := pow_mono hp3.2.2
  have x13 : (2 : Int) ^ 13 = 8192 := by decide
  have x16 : (2 : Int) ^ 16 = 65536 := by decide
  rw [x13] at hP
  rw [x16] at hP3
  have wm := w13 ⟨hr.1, hr.2.1⟩ hP
  have we := e20n hp.2 hr.2.2.1 hr.2.2.2
  have wm3 := w16 ⟨hr3.1, hr3.2.1⟩ hP3
  have we3 := e20m hp.2 hr3.2.2.1 hr3.2.2.2
  have wa := e33 n10.2
  have wb := e33 n11.2
  have kR := we.2.2
  have kA := wa.2
  have kB := wb.2
  have k3 := we3.2
  refine ⟨Int.ne_of_gt n1, n3, by rw [fmod2]; exact n2, wm.1, we.1, n10.1, wa.1, n11.1, wb.1, gap_bd ⟨Int.lt_trans (by decide) wm.1.1, Int.lt_trans wm.1.2 (by decide)⟩ we.2.1 t0 hb, gap_bd n10.1 n10.2 t0 hb, gap_bd n11.1 n11.2 t0 hb, wm3, we3.1, ?_, ?_, fun h => ?_, fun h => ?_, ?_, ?_⟩
  · rw [less_V hb.1 kA kR]; exact decide_eq_false (Int.not_lt.mpr n4)
  · rw [less_V hb.1 kB kR]; exact decide_eq_false (Int.not_lt.mpr n5)
  · rw [less_V hb.1 kR kA]; exact decide_eq_true (n6 h)
  · rw [less_V hb.1 kR kB]; exact decide_eq_true (n7 h)
  · rw [cmpR_V kB k3]; exact sgn_lt.mpr (Int.sub_neg_of_lt n8)
  · rw [cmpR_V k3 kA]; exact sgn_lt.mpr (Int.sub_neg_of_lt n9)
theorem near_flip {p t b : Int} (h : NearF p (0 - t) b) : NearF p t b := by
  obtain ⟨f1, f2, f3, f4, f5, f6, f7, f8, f9, f10, f11, f12, f13, f14, f15, f16, f17, f18, f19, f20⟩ := h
  rw [rnd_neg] at f1 f2 f3 f4 f5 f6 f7 f8 f9 f10 f11 f12 f13 f14 f15 f16 f17 f18
  simp only [rnd_neg] at f19 f20
  dsimp only at f1 f2 f3 f4 f5 f6 f7 f8 f9 f10 f11 f12 f13 f14 f15 f16 f17 f18
  simp only [abv_neg, bel_neg, gap_neg, cmpR_neg, sz_neg'] at f1 f2 f3 f4 f5 f6 f7 f8 f9 f10 f11 f12 f13 f14 f15 f16 f17 f18 f19 f20
  rw [fmod2] at f3
  exact ⟨by omega, f2, by rw [fmod2]; omega, by omega, f5, by omega, f9, by omega, f7, f10, f12, f11, by omega, f14, f16, f15, f18, f17, f20, f19⟩
theorem near_facts {p t b : Int} (hp : 2 ≤ p ∧ p ≤ 12) (ht : -1048576 < t ∧ t < 1048576) (hb : 0 < b ∧ b < 1024) (h0 : t ≠ 0) : NearF p t b := by
  rcases Int.lt_trichotomy t 0 with h | h | h
  · exact near_flip (near_pos hp (by omega) hb)
  · exact absurd h h0
  · exact near_pos hp ⟨h, ht.2⟩ hb
structure WholeF (m e : Int) : Prop where
  lo : 0 < (exP m e).2 ∧ (exP m e).2 ≤ 1152921504606846976
  hi : -18889465931478580854784 < (exP m e).1 ∧ (exP m e).1 < 18889465931478580854784
  fm : -16384 < (flP m e).1 ∧ (flP m e).1 < 16384
  fe : 0 ≤ (flP m e).2 ∧ (flP m e).2 ≤ 100
  cm : -16384 < (clP m e).1 ∧ (clP m e).1 < 16384
  ce : 0 ≤ (clP m e).2 ∧ (clP m e).2 ≤ 100
  tm : -16384 < (trP m e).1 ∧ (trP m e).1 < 16384
  te : 0 ≤ (trP m e).2 ∧ (trP m e).2 ≤ 100
  rm : -16384 < (roP m e).1 ∧ (roP m e).1 < 16384
  re : 0 ≤ (roP m e).2 ∧ (roP m e).2 ≤ 100
  fv : (flP m e).1 * 2 ^ (flP m e).2.toNat = (exP m e).1.fdiv (exP m e).2
  cv : (clP m e).1 * 2 ^ (clP m e).2.toNat = 0 - (0 - (exP m e).1).fdiv (exP m e).2
  tv : 0 ≤ (exP m e).1 → (trP m e).1 * 2 ^ (trP m e).2.toNat = (exP m e).1.fdiv (exP m e).2
  tw : (exP m e).1 < 0 → (trP m e).1 * 2 ^ (trP m e).2.toNat = 0 - (0 - (exP m e).1).fdiv (exP m e).2
  rv : 2 * ((exP m e).1 - (exP m e).1.fdiv (exP m e).2 * (exP m e).2) < (exP m e).2 ∨ (2 * ((exP m e).1 - (exP m e).1.fdiv (exP m e).2 * (exP m e).2) = (exP m e).2 ∧ ((exP m e).1.fdiv (exP m e).2).fmod 2 = 0) →
    (roP m e).1 * 2 ^ (roP m e).2.toNat = (exP m e).1.fdiv (exP m e).2
  rw : ¬ (2 * ((exP m e).1 - (exP m e).1.fdiv (exP m e).2 * (exP m e).2) < (exP m e).2 ∨ (2 * ((exP m e).1 - (exP m e).1.fdiv (exP m e).2 * (exP m e).2) = (exP m e).2 ∧ ((exP m e).1.fdiv (exP m e).2).fmod 2 = 0)) →
    (roP m e).1 * 2 ^ (roP m e).2.toNat = (exP m e).1.fdiv (exP m e).2 + 1
theorem whole_facts {m e : Int} (hm : -8192 < m ∧ m < 8192) (he : -40 ≤ e ∧ e ≤ 60) : WholeF m e := by
  obtain ⟨x1, x2, x3, x4⟩ := exP_bd (A := 13) (B := 40) (C := 60) (m := m) (e := e) hm (by omega) (by omega)
  have e1 : (2 : Int) ^ (13 + 60) = 9444732965739290427392 := by decide
  have e2 : (2 : Int) ^ 40 = 1099511627776 := by decide
  rw [e1] at x1 x2
  rw [e2] at x4
  obtain ⟨a1, a2, a3⟩ := fl_facts hm he.2
  obtain ⟨b1, b2, b3⟩ := cl_facts hm he.2
  obtain ⟨c1, c2, c3, c4⟩ := ro_facts hm he.2
  have hs := exP_sign m e
  by_cases h : 0 ≤ m
  · have t : trP m e = flP m e := by unfold trP; rw [if_pos h]
    exact ⟨⟨x3, by omega⟩, by omega, a2, a3, b2, b3, by rw [t]; exact a2, by rw [t]; exact a3, c1, c2, a1, b1, fun _ => by rw [t]; exact a1, fun q => absurd (hs.mpr h) (by omega), c3, c4⟩
  · have t : trP m e = clP m e := by unfold trP; rw [if_neg h]
    exact ⟨⟨x3, by omega⟩, by omega, a2, a3, b2, b3, by rw [t]; exact b2, by rw [t]; exact b3, c1, c2, a1, b1, fun q => absurd (hs.mp q) h, fun _ => by rw [t]; exact b1, c3, c4⟩
structure LapF (p t1 b1 t2 b2 y : Int) : Prop where
  fm : -8192 < (rndP p t1 b1).1 ∧ (rndP p t1 b1).1 < 8192
  fe : -40 ≤ (rndP p t1 b1).2 ∧ (rndP p t1 b1).2 ≤ 60
  mm : -8192 < (rndP p t2 b2).1 ∧ (rndP p t2 b2).1 < 8192
  me : -40 ≤ (rndP p t2 b2).2 ∧ (rndP p t2 b2).2 ≤ 60
  ord : ¬ cmpR (rndP p t1 b1).1 (rndP p t1 b1).2 (rndP p t2 b2).1 (rndP p t2 b2).2 * (b2i (decide (t2 * b1 < t1 * b2)) - b2i (decide (t1 * b2 < t2 * b1))) < 0
  same : b2i (decide (t2 * b1 < t1 * b2)) - b2i (decide (t1 * b2 < t2 * b1)) = 0 → (rndP p t1 b1).1 = (rndP p t2 b2).1 ∧ (rndP p t1 b1).2 = (rndP p t2 b2).2
  em : -1099511627776 < (exP (rndP p t1 b1).1 (rndP p t1 b1).2).1 ∧ (exP (rndP p t1 b1).1 (rndP p t1 b1).2).1 < 1099511627776
  el : 0 < (exP (rndP p t1 b1).1 (rndP p t1 b1).2).2 ∧ (exP (rndP p t1 b1).1 (rndP p t1 b1).2).2 < 1099511627776
  idem : (rndP p (exP (rndP p t1 b1).1 (rndP p t1 b1).2).1 (exP (rndP p t1 b1).1 (rndP p t1 b1).2).2).1 = (rndP p t1 b1).1 ∧ (rndP p (exP (rndP p t1 b1).1 (rndP p t1 b1).2).1 (exP (rndP p t1 b1).1 (rndP p t1 b1).2).2).2 = (rndP p t1 b1).2
  neg : (rndP p (0 - t1) b1).1 = 0 - (rndP p t1 b1).1 ∧ (rndP p (0 - t1) b1).2 = (rndP p t1 b1).2
  sb : -1099511627776 < t1 * 2 ^ y.toNat ∧ t1 * 2 ^ y.toNat < 1099511627776
  sc : (rndP p t1 b1).1 ≠ 0 → (rndP p (t1 * 2 ^ y.toNat) b1).1 = (rndP p t1 b1).1 ∧ (rndP p (t1 * 2 ^ y.toNat) b1).2 = (rndP p t1 b1).2 + y
  sz : (rndP p t1 b1).1 = 0 → (rndP p (t1 * 2 ^ y.toNat) b1).1 = (rndP p t1 b1).1 ∧ (rndP p (t1 * 2 ^ y.toNat) b1).2 = (rndP p t1 b1).2
  cb : -1 ≤ cmpR (rndP p t1 b1).1 (rndP p t1 b1).2 (rndP p t2 b2).1 (rndP p t2 b2).2 ∧ cmpR (rndP p t1 b1).1 (rndP p t1 b1).2 (rndP p t2 b2).1 (rndP p t2 b2).2 ≤ 1
  wb : -1 ≤ b2i (decide (t2 * b1 < t1 * b2)) - b2i (decide (t1 * b2 < t2 * b1)) ∧ b2i (decide (t2 * b1 < t1 * b2)) - b2i (decide (t1 * b2 < t2 * b1)) ≤ 1
  p20 : 2 ≤ p ∧ p ≤ 20
  t1s : -1099511627776 < t1 ∧ t1 < 1099511627776
  b1s : 0 < b1 ∧ b1 < 1099511627776
  t2s : -1099511627776 < t2 ∧ t2 < 1099511627776
  b2s : 0 < b2 ∧ b2 < 1099511627776
  tns : -1099511627776 < 0 - t1 ∧ 0 - t1 < 1099511627776
  f64 : -18446744073709551616 < (rndP p t1 b1).1 ∧ (rndP p t1 b1).1 < 18446744073709551616
  f10 : -10000 ≤ (rndP p t1 b1).2 ∧ (rndP p t1 b1).2 ≤ 10000
  m64 : -18446744073709551616 < (rndP p t2 b2).1 ∧ (rndP p t2 b2).1 < 18446744073709551616
  m10 : -10000 ≤ (rndP p t2 b2).2 ∧ (rndP p t2 b2).2 ≤ 10000
theorem sz_range {n : Int} {k : Nat} (h : -(2 ^ k) < n ∧ n < 2 ^ k) (h0 : n ≠ 0) : 1 ≤ sz n ∧ sz n ≤ k := ⟨sz_pos h0, sz_le_iff'.mpr h⟩
theorem shf_bd {p t b : Int} {i j : Nat} (hp : p ≤ 15) (hb : 0 < b ∧ b < 2 ^ j) (hj : j ≤ 60) : shf p t b + 1 ≤ (200 : Nat) := by
  have h1 := sz_range (n := b) (k := j) (by have := p2pos j; omega) (by omega)
  have h2 := sz_nonneg t
  unfold shf
  omega
theorem shf_200 {p t b : Int} (hp : p ≤ 15) (hb : 0 < b ∧ b < 1099511627776) : shf p t b + 1 ≤ (200 : Nat) := by
  have e : (2 : Int) ^ 40 = 1099511627776 := by decide
  exact shf_bd (i := 0) (j := 40) hp (by omega) (by decide)
/-- a fraction that has so many bits is left as it is -/
theorem rnd_exact {p t b m e : Int} (hp : 2 ≤ p ∧ p ≤ 15) (ht : 0 < t) (hb : 0 < b ∧ b < 1099511627776) (hm : 0 < m) (ho : m % 2 = 1) (hs : sz m ≤ p) (he : -100 ≤ e) (h : t * 2 ^ 200 = V 200 (m, e) * b) : rndP p t b = (m, e) := by
  have hz := shf_200 (p := p) (t := t) hp.2 hb
  obtain ⟨N, E, r, hE, c⟩ := rnd_pos (Z := 200) ht hb.1 hp.1 hz (by decide)
  have hn := sz_pos (n := m) (by omega)
  have hk : sz (m * 2 ^ (p - sz m).toNat) = (p - 1).toNat + 1 := by
    rw [sz_mul_pow hm]
    omega
  obtain ⟨k, hk1, hk2, hk3⟩ := sz_bounds (n := m * 2 ^ (p - sz m).toNat) (Int.mul_pos hm (p2pos _))
  have hkp : k = (p - 1).toNat := by omega
  subst hkp
  rw [pow_s] at hk3
  have hu := p2pos (e - (p - sz m) + (200 : Nat)).toNat
  have v : V 200 (m, e) = m * 2 ^ (p - sz m).toNat * 2 ^ (e - (p - sz m) + (200 : Nat)).toNat := by
    unfold V
    dsimp only
    rw [Int.mul_assoc, ← Int.pow_add]
    congr 2
    omega
  have hD : 0 < 2 ^ (e - (p - sz m) + (200 : Nat)).toNat * b := Int.mul_pos hu hb.1
  have hX : t * 2 ^ 200 = m * 2 ^ (p - sz m).toNat * (2 ^ (e - (p - sz m) + (200 : Nat)).toNat * b) := by rw [h, v, Int.mul_assoc]
  have c2 : Chr (2 ^ (p - 1).toNat) (t * 2 ^ 200) (2 ^ (e - (p - sz m) + (200 : Nat)).toNat * b) (m * 2 ^ (p - sz m).toNat) := by
    rw [hX]
    refine ⟨hD, Int.mul_le_mul_of_nonneg_right hk2 (Int.le_of_lt hD), ?_, ?_, ?_, fun q => ?_⟩
    · have q := Int.mul_lt_mul_of_pos_right hk3 hD
      rw [Int.mul_assoc 2] at q
      exact q
    · omega
    · omega
    · exfalso; omega
  have hH : (1 : Int) ≤ 2 ^ (p - 1).toNat := by have := p2pos (p - 1).toNat; omega
  have l1 := chr_le hH hb.1 hb.1 c c2 (Int.le_refl _)
  have l2 := chr_le hH hb.1 hb.1 c2 c (Int.le_refl _)
  refine can_eq (Z := 200) (rnd_can _ _ _) (.inr ho) (rnd_exp hb.1 hp.1 hz (by decide)) (by dsimp only; omega) ?_
  rw [v, r, leanP_V (by omega)]
  exact Int.le_antisymm l1 l2
theorem rnd_idem {p t b : Int} (hp : 2 ≤ p ∧ p ≤ 12) (ht : -1048576 < t ∧ t < 1048576) (hb : 0 < b ∧ b < 1024) :
    rndP p (exP (rndP p t b).1 (rndP p t b).2).1 (exP (rndP p t b).1 (rndP p t b).2).2 = rndP p t b := by
  have key : ∀ t, 0 < t → t < 1048576 → rndP p (exP (rndP p t b).1 (rndP p t b).2).1 (exP (rndP p t b).1 (rndP p t b).2).2 = rndP p t b := by
    intro t h0 h1
    have hr := rnd_bd hp.1 (p15 hp).1 (t := t) ⟨Int.lt_trans (by decide) h0, h1⟩ hb
    have hN := near_V hp ⟨h0, h1⟩ hb
    have k : 0 ≤ (rndP p t b).2 + (200 : Nat) := by omega
    obtain ⟨v1, v2⟩ := exP_V (Z := 200) (m := (rndP p t b).1) k
    have hP : (2 : Int) ^ (p.toNat + 1) ≤ 2 ^ 13 := pow_mono (by omega)
    obtain ⟨x1, x2, x3, x4⟩ := exP_bd (A := 13) (B := 40) (C := 20) (m := (rndP p t b).1) (e := (rndP p t b).2) (by omega) (by omega) (by omega)
    have e2 : (2 : Int) ^ 21 = 2097152 := by decide
    have x5 : (exP (rndP p t b).1 (rndP p t b).2).2 < 1099511627776 := by
      have := (exP_bd (A := 13) (B := 21) (C := 20) (m := (rndP p t b).1) (e := (rndP p t b).2) (by omega) (by omega) (by omega)).2.2.2
      omega
    have hpos : 0 < (exP (rndP p t b).1 (rndP p t b).2).1 := by
      have p1 := Int.mul_pos ((V_sign (Z := 200) (rndP p t b).1 (rndP p t b).2).1 hN.pos) v2
      rw [v1] at p1
      by_cases hc : 0 < (exP (rndP p t b).1 (rndP p t b).2).1
      · exact hc
      · have := Int.mul_le_mul_of_nonneg_right (Int.not_lt.mp hc) (Int.le_of_lt (p2pos 200))
        rw [Int.zero_mul] at this
        omega
    exact rnd_exact (m := (rndP p t b).1) (e := (rndP p t b).2) ⟨hp.1, by omega⟩ hpos ⟨x3, x5⟩ hN.pos hN.odd hN.size (by omega) v1.symm
  rcases Int.lt_trichotomy t 0 with h | h | h
  · have := key (0 - t) (by omega) (by omega)
    rw [rnd_neg] at this
    dsimp only at this
    rw [exP_neg] at this
    dsimp only at this
    rw [rnd_neg] at this
    have q1 := congrArg Prod.fst this
    have q2 := congrArg Prod.snd this
    dsimp only at q1 q2
    exact Prod.ext (by omega) q2
  · subst h
    rw [rnd_z]
    exact rnd_z _ _
  · exact key t h ht.2
theorem rnd_scaled {p t b y : Int} (hp : 2 ≤ p ∧ p ≤ 12) (ht : -1048576 < t ∧ t < 1048576) (hb : 0 < b ∧ b < 1024) (hy : 0 ≤ y) (h0 : t ≠ 0) : rndP p (t * 2 ^ y.toNat) b = ((rndP p t b).1, (rndP p t b).2 + y) := by
  have key : ∀ t, 0 < t → t < 1048576 → rndP p (t * 2 ^ y.toNat) b = ((rndP p t b).1, (rndP p t b).2 + y) := by
    intro t h0 h1
    have hz := shf_200 (p := p) (t := t) (b := b) (p15 hp).1 (b10 hb)
    have hz2 := shf_200 (p := p) (t := t * 2 ^ y.toNat) (b := b) (p15 hp).1 (b10 hb)
    have hyp := p2pos y.toNat
    have hN := near_V hp ⟨h0, h1⟩ hb
    have hr := rnd_bd hp.1 (p15 hp).1 (t := t) ⟨Int.lt_trans (by decide) h0, h1⟩ hb
    obtain ⟨N, E, r, hE, c⟩ := rnd_pos (Z := 200) h0 hb.1 hp.1 hz (by decide)
    obtain ⟨N2, E2, r2, hE2, c2⟩ := rnd_pos (Z := 200) (Int.mul_pos h0 hyp) hb.1 hp.1 hz2 (by decide)
    have c3 := chr_scale hyp c
    have x1 : t * 2 ^ 200 * 2 ^ y.toNat = t * 2 ^ y.toNat * 2 ^ 200 := Int.mul_right_comm _ _ _
    have x2 : 2 ^ (E + (200 : Nat)).toNat * b * 2 ^ y.toNat = 2 ^ (E + y + (200 : Nat)).toNat * b := by
      rw [Int.mul_right_comm, ← Int.pow_add]
      congr 2
      omega
    rw [x1, x2] at c3
    have hH : (1 : Int) ≤ 2 ^ (p - 1).toNat := by have := p2pos (p - 1).toNat; omega
    have l1 := chr_le hH hb.1 hb.1 c2 c3 (Int.le_refl _)
    have l2 := chr_le hH hb.1 hb.1 c3 c2 (Int.le_refl _)
    refine can_eq (Z := 200) (rnd_can _ _ _) (.inr hN.odd) (rnd_exp hb.1 hp.1 hz2 (by decide)) (by dsimp only; omega) ?_
    have v2 : V 200 ((rndP p t b).1, (rndP p t b).2 + y) = V 200 (rndP p t b) * 2 ^ y.toNat := by
      unfold V
      dsimp only
      rw [Int.mul_assoc, ← Int.pow_add]
      congr 2
      omega
    rw [v2, r2, r, leanP_V (by omega), leanP_V (by omega), Int.mul_assoc N, ← Int.pow_add, show (E + (200 : Nat)).toNat + y.toNat = (E + y + (200 : Nat)).toNat by omega]
    exact Int.le_antisymm l1 l2
  rcases Int.lt_trichotomy t 0 with h | h | h
  · have := key (0 - t) (by omega) (by omega)
    rw [Int.sub_mul, Int.zero_mul, rnd_neg, rnd_neg] at this
    have q1 := congrArg Prod.fst this
    have q2 := congrArg Prod.snd this
    dsimp only at q1 q2
    exact Prod.ext (by dsimp only; omega) q2
  · exact absurd h h0
  · exact key t h ht.2
theorem b2i_t : b2i true = 1 := rfl
theorem b2i_f : b2i false = 0 := rfl
theorem lap_facts {p t1 b1 t2 b2 y : Int} (hp : 2 ≤ p ∧ p ≤ 12) (h1 : -1048576 < t1 ∧ t1 < 1048576) (h2 : 0 < b1 ∧ b1 < 1024) (h3 : -1048576 < t2 ∧ t2 < 1048576) (h4 : 0 < b2 ∧ b2 < 1024) (hy : 0 ≤ y ∧ y < 9) : LapF p t1 b1 t2 b2 y := by
  have hp15 := p15 hp
  have r1 := rnd_bd hp.1 hp15.1 h1 h2
  have r2 := rnd_bd hp.1 hp15.1 h3 h4
  have hP : (2 : Int) ^ (p.toNat + 1) ≤ 2 ^ 13 := pow_mono hp15.2.2
  have x13 : (2 : Int) ^ 13 = 8192 := by decide
  rw [x13] at hP
  have z1 := shf_200 (p := p) (t := t1) (b := b1) hp15.1 (b10 h2)
  have z2 := shf_200 (p := p) (t := t2) (b := b2) hp15.1 (b10 h4)
  have wm1 := w13 ⟨r1.1, r1.2.1⟩ hP
  have wm2 := w13 ⟨r2.1, r2.2.1⟩ hP
  have we1 := e20 hp.2 r1.2.2.1 r1.2.2.2
  have we2 := e20 hp.2 r2.2.2.1 r2.2.2.2
  have m1 := rnd_mono (Z := 200) (t1 := t1) (b1 := b1) (t2 := t2) (b2 := b2) h2.1 h4.1 hp.1 z1 z2 (by decide)
  have m2 := rnd_mono (Z := 200) (t1 := t2) (b1 := b2) (t2 := t1) (b2 := b1) h4.1 h2.1 hp.1 z2 z1 (by decide)
  have hc := cmpR_V (m1 := (rndP p t1 b1).1) (m2 := (rndP p t2 b2).1) we1.2.2.1 we2.2.2.1
  have hcb := sgn_bd (V 200 ((rndP p t1 b1).1, (rndP p t1 b1).2) - V 200 ((rndP p t2 b2).1, (rndP p t2 b2).2))
  obtain ⟨x1, x2, x3, x4⟩ := exP_bd (A := 13) (B := 21) (C := 20) (m := (rndP p t1 b1).1) (e := (rndP p t1 b1).2) (by rw [x13]; exact wm1.1) we1.2.2.2.1 we1.2.2.2.2
  have e33 : (2 : Int) ^ (13 + 20) = 8589934592 := by decide
  have e21 : (2 : Int) ^ 21 = 2097152 := by decide
  rw [e33] at x1 x2
  rw [e21] at x4
  have hid := rnd_idem hp h1 h2
  have hng := rnd_neg p t1 b1
  have hy8 : 0 < (2 : Int) ^ y.toNat ∧ (2 : Int) ^ y.toNat ≤ 256 := ⟨p2pos _, pow_mono (i := y.toNat) (j := 8) (by clear hp h1 h2 h3 h4 hp15 r1 r2 hP z1 z2 wm1 wm2 we1 we2 m1 m2 hcb x1 x2 x3 x4; omega)⟩
  have nz : t1 ≠ 0 → (rndP p t1 b1).1 ≠ 0 := fun h => (near_facts hp h1 h2 h).nz
  refine ⟨wm1.1, we1.1, wm2.1, we2.1, ?_, ?_, x40 x1 x2, l40 x3 x4, ?_, ?_, y28 h1 hy8, fun h => ?_, fun h => ?_, by rw [hc]; exact hcb, ?_, hp15.2.1, (t20 h1).1, b10 h2, (t20 h3).1, b10 h4, (t20 h1).2, wm1.2, we1.2.1, wm2.2, we2.2.1⟩
  · rw [hc]
    rcases Int.lt_trichotomy (t1 * b2) (t2 * b1) with c | c | c
    · rw [decide_eq_false (lt_no c), decide_eq_true c, b2i_t, b2i_f]
      exact neg_way (sgn_le0 (m1 (Int.le_of_lt c)))
    · rw [c, Int.sub_self, Int.mul_zero]
      decide
    · rw [decide_eq_true c, decide_eq_false (lt_no c), b2i_t, b2i_f]
      exact pos_way (sgn_ge0 (m2 (Int.le_of_lt c)))
  · intro hw
    rcases Int.lt_trichotomy (t1 * b2) (t2 * b1) with c | c | c
    · rw [decide_eq_false (lt_no c), decide_eq_true c] at hw
      exact absurd hw (by decide)
    · have := rnd_eq (Z := 200) h2.1 h4.1 hp.1 z1 z2 (by decide) c
      rw [this]
      exact ⟨rfl, rfl⟩
    · rw [decide_eq_true c, decide_eq_false (lt_no c)] at hw
      exact absurd hw (by decide)
  · rw [hid]; exact ⟨rfl, rfl⟩
  · rw [hng]; exact ⟨rfl, rfl⟩
  · have : t1 ≠ 0 := fun q => h (by rw [q, rnd_z])
    rw [rnd_scaled hp h1 h2 hy.1 this]
    exact ⟨rfl, rfl⟩
  · have : t1 = 0 := by
      by_cases q : t1 = 0
      · exact q
      · exact absurd h (nz q)
    rw [this, Int.zero_mul, rnd_z]
    exact ⟨rfl, rfl⟩
  · by_cases c1 : t2 * b1 < t1 * b2 <;> by_cases c2 : t1 * b2 < t2 * b1 <;> simp only [c1, c2, decide_true, decide_false, b2i_t, b2i_f] <;> decide
end Mine
-- the walk
local macro_rules | `(tactic| k_room) => `(tactic| ktr_room)
local macro_rules | `(tactic| k_units) => `(tactic| ktr_units)
local macro_rules | `(tactic| k_mem) => `(tactic| ((repeat (refine List.mem_cons_of_mem _ ?_)); ktr_member))
namespace Mine
abbrev Led := List (Addr × Obj)
abbrev Ret := Heap → Addr → (Str → Option Value) → Shared → (Value → Shared → Prop) → Prop

/-- what a def of the text does when it is called from a def's frame: `R` is what the caller goes on with -/
def Claim (w : World) (mean : ExcName → Option Value) (mg mb : Str → Option Value) (k : Nat) (f : Addr) (news : Led) (vs : List Value) (R : Ret) : Prop :=
  ∀ (dp un : Nat) (gd : Option (List Code)) (cn : Str) (cs : Scope) (a : Addr) (ccd : Value) (cl : List (Str × Addr)) (outer : List Env) (A₀ : Around) (base h₀ : Heap) (L : Addr) (m : Str → Option Value) (s : Shared) (Q E : Value → Shared → Prop),
    Below A₀ base outer h₀ → Fr h₀ L s.heap m → (hd.heap_1 w.params).In h₀ → News h₀ L s.heap news → Top view (looseW view [Str.ofString "REACH"]) mean mg mb h₀ → cs.kind = .function →
    dp + k < recursionLimit → un + 20 * k < cLine → R h₀ L m s Q →
      wpAny (model PySem.Challenge.rw_pq1013_01.row.prog w) (ktrTop dp un gd cn cs L a ccd cl outer) (call (.ref f) vs) Q E s

section
variable {w : World} {mean : ExcName → Option Value} {mg mb : Str → Option Value}
theorem Claim.use {k : Nat} {f : Addr} {news : Led} {vs : List Value} {R : Ret} (C : Claim w mean mg mb k f news vs R)
    {dp un : Nat} {gd : Option (List Code)} {cn : Str} {cs : Scope} {a : Addr} {ccd : Value} {cl : List (Str × Addr)} {outer : List Env} {A₀ : Around} {base h₀ : Heap} {L : Addr} {m : Str → Option Value} {s : Shared} {Q E : Value → Shared → Prop}
    (B : Below A₀ base outer h₀) (F : Fr h₀ L s.heap m) (X : (hd.heap_1 w.params).In h₀) (N : News h₀ L s.heap news) (T : Top view (looseW view [Str.ofString "REACH"]) mean mg mb h₀) (hk : cs.kind = .function)
    (hd : dp + k < recursionLimit) (hu : un + 20 * k < cLine) (ret : R h₀ L m s Q) :
    wpAny (model PySem.Challenge.rw_pq1013_01.row.prog w) (ktrTop dp un gd cn cs L a ccd cl outer) (call (.ref f) vs) Q E s :=
  C _ _ _ _ _ _ _ _ _ _ _ _ _ _ _ _ _ B F X N T hk hd hu ret
end
theorem room {dp k j : Nat} (h : dp + k < recursionLimit) (hj : j + 1 ≤ k) : dp + 1 + j < recursionLimit := by omega
theorem units {un k j : Nat} (h : un + 20 * k < cLine) (hj : j + 1 ≤ k) : un + 3 + 20 * j < cLine := by omega

abbrev RInt (news : Led) (P : Prop) (x : Int) : Ret := fun h₀ L m s Q => ∀ (t : Tok) (h' : Heap) (tk' : Nat), P → Fr h₀ L h' m → News h₀ L h' news → Q (.int x t) { s with heap := h', toks := tk' }
abbrev RBool (news : Led) (P : Prop) (x : Bool) : Ret := fun h₀ L m s Q => ∀ (h' : Heap) (tk' : Nat), P → Fr h₀ L h' m → News h₀ L h' news → Q (.bool x) { s with heap := h', toks := tk' }
abbrev RReal (w : World) (news : Led) (P : Prop) (r : Int × Int) : Ret := fun h₀ L m s Q => ∀ (x dx : Addr) (t1 t2 t3 t4 : Tok) (h' : Heap) (tk' : Nat), P → Fr h₀ L h' m →
  News h₀ L h' ((x, instObj 89 dx) :: (dx, dictOf [{ hash := PyData.keyHash w.params (Str.ofString "mantissa"), key := .str (Str.ofString "mantissa") t1, val := .int r.1 t2 }, { hash := PyData.keyHash w.params (Str.ofString "exponent"), key := .str (Str.ofString "exponent") t3, val := .int r.2 t4 }] 2) :: news) → Q (.ref x) { s with heap := h', toks := tk' }
abbrev RTup (news : Led) (P : Prop) (r : Int × Int) : Ret := fun h₀ L m s Q => ∀ (x : Addr) (t1 t2 : Tok) (n : Nat) (h' : Heap) (tk' : Nat), P → Fr h₀ L h' m →
  News h₀ L h' ((x, { cls := .type "tuple", data := .seq #[.int r.1 t1, .int r.2 t2] n }) :: news) → Q (.ref x) { s with heap := h', toks := tk' }
theorem beq_no {a b : Int} (h : a ≠ b) : ¬ ((a == b) = true) := by simpa using h
theorem call_ab {prog : Program} {w : World} {A : Around} {E : Value → Shared → Prop} {s : Shared} {a : Int} {t : Tok} {Q : Value → Shared → Prop} (h : ∀ u tk, Q (.int (ab a) u) { s with toks := tk }) :
    wpAny (model prog w) A (call (.builtin "abs") [.int a t]) Q E s := call_abs_int h
section
variable {w : World} {h₀ h' : Heap} {L : Addr} {m : Str → Option Value} {news N2 : Led} {s : Shared} {Q : Value → Shared → Prop} {P : Prop} {t : Tok} {tk' : Nat}
theorem led_sub {h : Heap} (N : News h₀ L h N2) (hs : ∀ p ∈ news, p ∈ N2) : News h₀ L h news := fun p hp => N p (hs p hp)
theorem ret_int {x y : Int} (hret : RInt news P x h₀ L m s Q) (F : Fr h₀ L h' m) (N : News h₀ L h' N2) (hs : ∀ p ∈ news, p ∈ N2) (hP : P) (e : y = x) : Q (.int y t) { s with heap := h', toks := tk' } := by
  subst e
  exact hret t h' tk' hP F (led_sub N hs)
theorem ret_bool {x y : Bool} (hret : RBool news P x h₀ L m s Q) (F : Fr h₀ L h' m) (N : News h₀ L h' N2) (hs : ∀ p ∈ news, p ∈ N2) (hP : P) (e : y = x) : Q (.bool y) { s with heap := h', toks := tk' } := by
  subst e
  exact hret h' tk' hP F (led_sub N hs)
theorem ret_real {r : Int × Int} {m₁ e₁ : Int} {x dx : Addr} {t1 t2 t3 t4 : Tok} (hret : RReal w news P r h₀ L m s Q) (F : Fr h₀ L h' m) (N : News h₀ L h' N2) (hs : ∀ p ∈ news, p ∈ N2)
    (hx : (x, instObj 89 dx) ∈ N2) (hd : (dx, dictOf [{ hash := PyData.keyHash w.params (Str.ofString "mantissa"), key := .str (Str.ofString "mantissa") t1, val := .int m₁ t2 }, { hash := PyData.keyHash w.params (Str.ofString "exponent"), key := .str (Str.ofString "exponent") t3, val := .int e₁ t4 }] 2) ∈ N2) (hP : P) (e : (m₁, e₁) = r) : Q (.ref x) { s with heap := h', toks := tk' } := by
  subst e
  refine hret x dx t1 t2 t3 t4 h' tk' hP F fun p hp => ?_
  rcases List.mem_cons.mp hp with rfl | hp
  · exact N _ hx
  rcases List.mem_cons.mp hp with rfl | hp
  · exact N _ hd
  exact N p (hs p hp)
theorem ret_tup {r : Int × Int} {a b : Int} {x : Addr} {t1 t2 : Tok} {n : Nat} (hret : RTup news P r h₀ L m s Q) (F : Fr h₀ L h' m) (N : News h₀ L h' N2) (hs : ∀ p ∈ news, p ∈ N2)
    (hx : (x, ({ cls := .type "tuple", data := .seq #[.int a t1, .int b t2] n } : Obj)) ∈ N2) (hP : P) (e : (a, b) = r) : Q (.ref x) { s with heap := h', toks := tk' } := by
  subst e
  refine hret x t1 t2 n h' tk' hP F fun p hp => ?_
  rcases List.mem_cons.mp hp with rfl | hp
  · exact N _ hx
  exact N p (hs p hp)
/-- a call that was walked with a part of the ledger alone: the rest stands as it stood -/
theorem ret_boolF {x y : Bool} {led : Led} {g : Heap} {L' : Addr} {m' : Str → Option Value} (hret : RBool led P x h₀ L m s Q) (NL : News h₀ L s.heap led) (hi : ∀ p ∈ news, p ∈ led) (GS : GSub s.heap g (news.map (·.1))) (G : Fr g L' h' m')
    (F : Fr h₀ L h' m) (N : News h₀ L h' N2) (hs : ∀ p ∈ news, p ∈ N2) (hP : P) (e : y = x) : Q (.bool y) { s with heap := h', toks := tk' } := by
  subst e
  refine hret h' tk' hP F fun p hp => ?_
  by_cases hm : p.1 ∈ news.map (·.1)
  · obtain ⟨q, hq, hqe⟩ := List.mem_map.mp hm
    have h1 := (NL p hp).1
    have h2 := (NL q (hi q hq)).1
    have hqe' : q.1 = p.1 := hqe
    rw [hqe', h1] at h2
    have hpq : p = q := Prod.ext hqe'.symm (Option.some.inj h2)
    rw [hpq]
    exact N q (hs q hq)
  · exact ⟨G.keep _ _ (GS _ _ (NL p hp).1 hm), (NL p hp).2⟩
end
end Mine
local macro_rules | `(tactic| walk_at "call builtin:divmod") => `(tactic| (k_here; (try dsimp only [List.cons_append, List.nil_append]); (with_reducible show wpAny _ _ (call (Value.builtin _) [Value.int _ _, Value.int _ _]) _ _ _); k_dflt (refine' divmod_N ?k1 ?k2 ?k3 ?_ (Or.inl (PyProof.noPylong_of_log2 ?k4)); (case k1 => k_asm); (case k2 => k_asm); (case k3 => omega); (case k4 => exact Mine.log2_lt (by omega))); (intro h9 F9 N9; (try dsimp only); (try k_fold))))
local macro_rules | `(tactic| walk_at "call builtin:abs") => `(tactic| ((with_reducible refine Mine.call_ab ?_); (intro u9 tk9; (try dsimp only))))
namespace Mine
theorem c_size_of {w : World} {mean : ExcName → Option Value} {mg mb : Str → Option Value} {news : Led} {n : Int} {tn : Tok}   :
    Claim w mean mg mb 2 100 news [.int n tn] (RInt news (True) (sz n)) := by
  unfold Claim
  k_fill
  intro dp un gd cn cs a ccd cl outer A₀ base h₀ L m s Q E B F X N T hk hdp hun hret
  refine wpAny_call ?_
  k_dflt cell_enter
  k_steps
  all_goals refine ret_int hret (by assumption) (by assumption) (by kcj_all) ?_ ?_
  all_goals first
    | exact (trivial)
    | (exact sz_abx _)
end Mine
local macro_rules | `(tactic| walk_at "call ref") => `(tactic| (k_here; (with_reducible show wpAny _ _ (call (Value.ref (nat_lit 100)) _) _ _ _); k_dflt (refine' (Mine.c_size_of).use ?k1 ?k2 ?k3 ?k4 ?k5 ?kK ?kd ?ku ?_; (case k1 => k_asm); (case k2 => k_asm); (case k3 => k_asm); (case k4 => k_asm); (case k5 => k_asm); (case kK => first | exact rfl | assumption); (case kd => first | exact Mine.room (by assumption) (by decide) | ktr_room); (case ku => first | exact Mine.units (by assumption) (by decide) | ktr_units)); (intro t9 h9 tk9 P9 F9 N9; (try dsimp only at N9); (try dsimp only); (try k_fold))))
namespace Mine
theorem c_zeros_below {w : World} {mean : ExcName → Option Value} {mg mb : Str → Option Value} {news : Led} {n : Int} {tn : Tok}   :
    Claim w mean mg mb 2 114 news [.int n tn] (RInt news (True) (tz n)) := by
  unfold Claim
  k_fill
  intro dp un gd cn cs a ccd cl outer A₀ base h₀ L m s Q E B F X N T hk hdp hun hret
  refine wpAny_call ?_
  k_dflt cell_enter
  k_steps
  all_goals refine ret_int hret (by assumption) (by assumption) (by kcj_all) ?_ ?_
  all_goals first
    | exact (trivial)
    | (rfl)
end Mine
local macro_rules | `(tactic| walk_at "call ref") => `(tactic| (k_here; (with_reducible show wpAny _ _ (call (Value.ref (nat_lit 114)) _) _ _ _); k_dflt (refine' (Mine.c_zeros_below).use ?k1 ?k2 ?k3 ?k4 ?k5 ?kK ?kd ?ku ?_; (case k1 => k_asm); (case k2 => k_asm); (case k3 => k_asm); (case k4 => k_asm); (case k5 => k_asm); (case kK => first | exact rfl | assumption); (case kd => first | exact Mine.room (by assumption) (by decide) | ktr_room); (case ku => first | exact Mine.units (by assumption) (by decide) | ktr_units)); (intro t9 h9 tk9 P9 F9 N9; (try dsimp only at N9); (try dsimp only); (try k_fold))))
namespace Mine
theorem c_sign_of_whole {w : World} {mean : ExcName → Option Value} {mg mb : Str → Option Value} {news : Led} {n : Int} {tn : Tok}   :
    Claim w mean mg mb 2 107 news [.int n tn] (RInt news (True) (sgn n)) := by
  unfold Claim
  k_fill
  intro dp un gd cn cs a ccd cl outer A₀ base h₀ L m s Q E B F X N T hk hdp hun hret
  refine wpAny_call ?_
  k_dflt cell_enter
  k_steps
  all_goals refine ret_int hret (by assumption) (by assumption) (by kcj_all) ?_ ?_
  all_goals first
    | exact (trivial)
    | (rfl)
end Mine
local macro_rules | `(tactic| walk_at "call ref") => `(tactic| (k_here; (with_reducible show wpAny _ _ (call (Value.ref (nat_lit 107)) _) _ _ _); k_dflt (refine' (Mine.c_sign_of_whole).use ?k1 ?k2 ?k3 ?k4 ?k5 ?kK ?kd ?ku ?_; (case k1 => k_asm); (case k2 => k_asm); (case k3 => k_asm); (case k4 => k_asm); (case k5 => k_asm); (case kK => first | exact rfl | assumption); (case kd => first | exact Mine.room (by assumption) (by decide) | ktr_room); (case ku => first | exact Mine.units (by assumption) (by decide) | ktr_units)); (intro t9 h9 tk9 P9 F9 N9; (try dsimp only at N9); (try dsimp only); (try k_fold))))
namespace Mine
theorem c_nearest_shift {w : World} {mean : ExcName → Option Value} {mg mb : Str → Option Value} {news : Led} {n : Int} {tn : Tok} {g : Int} {tg : Tok}  (hg : 1 ≤ g) (hg2 : g ≤ 10000) :
    Claim w mean mg mb 2 128 news [.int n tn, .int g tg] (RInt news (True) (nsh n g)) := by
  unfold Claim
  k_fill
  intro dp un gd cn cs a ccd cl outer A₀ base h₀ L m s Q E B F X N T hk hdp hun hret
  refine wpAny_call ?_
  k_dflt cell_enter
  k_steps
  all_goals refine ret_int hret (by assumption) (by assumption) (by kcj_all) ?_ ?_
  all_goals first
    | exact (trivial)
    | (unfold nsh; split <;> first | rfl | (exfalso; omega))
end Mine
local macro_rules | `(tactic| walk_at "call ref") => `(tactic| (k_here; (with_reducible show wpAny _ _ (call (Value.ref (nat_lit 128)) _) _ _ _); k_dflt (refine' (Mine.c_nearest_shift ?p0 ?p1).use ?k1 ?k2 ?k3 ?k4 ?k5 ?kK ?kd ?ku ?_; (case k1 => k_asm); (case k2 => k_asm); (case k3 => k_asm); (case k4 => k_asm); (case k5 => k_asm); (case kK => first | exact rfl | assumption); (case kd => first | exact Mine.room (by assumption) (by decide) | ktr_room); (case ku => first | exact Mine.units (by assumption) (by decide) | ktr_units); (case p0 => first | assumption | omega); (case p1 => first | assumption | omega)); (intro t9 h9 tk9 P9 F9 N9; (try dsimp only at N9); (try dsimp only); (try k_fold))))
namespace Mine
theorem c_with_sticky {w : World} {mean : ExcName → Option Value} {mg mb : Str → Option Value} {news : Led} {n : Int} {tn : Tok} {b : Bool}   :
    Claim w mean mg mb 2 142 news [.int n tn, .bool b] (RInt news (True) (stk n b)) := by
  unfold Claim
  k_fill
  intro dp un gd cn cs a ccd cl outer A₀ base h₀ L m s Q E B F X N T hk hdp hun hret
  refine wpAny_call ?_
  k_dflt cell_enter
  k_steps
  all_goals refine ret_int hret (by assumption) (by assumption) (by kcj_all) ?_ ?_
  all_goals first
    | exact (trivial)
    | (unfold stk; simp_all; done)
end Mine
local macro_rules | `(tactic| walk_at "call ref") => `(tactic| (k_here; (with_reducible show wpAny _ _ (call (Value.ref (nat_lit 142)) _) _ _ _); k_dflt (refine' (Mine.c_with_sticky).use ?k1 ?k2 ?k3 ?k4 ?k5 ?kK ?kd ?ku ?_; (case k1 => k_asm); (case k2 => k_asm); (case k3 => k_asm); (case k4 => k_asm); (case k5 => k_asm); (case kK => first | exact rfl | assumption); (case kd => first | exact Mine.room (by assumption) (by decide) | ktr_room); (case ku => first | exact Mine.units (by assumption) (by decide) | ktr_units)); (intro t9 h9 tk9 P9 F9 N9; (try dsimp only at N9); (try dsimp only); (try k_fold))))
namespace Mine
theorem c_lean {w : World} {mean : ExcName → Option Value} {mg mb : Str → Option Value} {news : Led} {mt : Int} {tmt : Tok} {ex : Int} {tex : Tok}  (hp1 : sz mt + ex ≤ 65536) (hp2 : -65536 ≤ sz mt + ex) :
    Claim w mean mg mb 5 121 news [.int mt tmt, .int ex tex] (RReal w news (True) (leanP mt ex)) := by
  unfold Claim
  k_fill
  intro dp un gd cn cs a ccd cl outer A₀ base h₀ L m s Q E B F X N T hk hdp hun hret
  have hz : mt = 0 ∨ 0 ≤ tz mt := tz_fact mt
  have hab : ab (sz mt + ex) ≤ 65536 := by unfold ab; split <;> omega
  refine wpAny_call ?_
  k_dflt cell_enter
  k_steps
  all_goals refine ret_real hret (by assumption) (by assumption) (by kcj_all) (by k_mem) (by k_mem) ?_ ?_
  all_goals first
    | exact (trivial)
    | (unfold leanP; (repeat' split) <;> first | rfl | contradiction | (exfalso; omega))
end Mine
local macro_rules | `(tactic| walk_at "call ref") => `(tactic| (k_here; (with_reducible show wpAny _ _ (call (Value.ref (nat_lit 121)) _) _ _ _); k_dflt (refine' (Mine.c_lean ?p0 ?p1).use ?k1 ?k2 ?k3 ?k4 ?k5 ?kK ?kd ?ku ?_; (case k1 => k_asm); (case k2 => k_asm); (case k3 => k_asm); (case k4 => k_asm); (case k5 => k_asm); (case kK => first | exact rfl | assumption); (case kd => first | exact Mine.room (by assumption) (by decide) | ktr_room); (case ku => first | exact Mine.units (by assumption) (by decide) | ktr_units); (case p0 => first | assumption | omega); (case p1 => first | assumption | omega)); (intro x9 d9 ta9 tb9 tc9 td9 h9 tk9 P9 F9 N9; (try dsimp only at N9); (try dsimp only); (try k_fold))))
namespace Mine
theorem c_negative {w : World} {mean : ExcName → Option Value} {mg mb : Str → Option Value} {news : Led} {rm re : Int} {rx rd : Addr} {rt1 rt2 rt3 rt4 : Tok} (hrx : (rx, instObj 89 rd) ∈ news) (hrd : (rd, dictOf [{ hash := PyData.keyHash w.params (Str.ofString "mantissa"), key := .str (Str.ofString "mantissa") rt1, val := .int rm rt2 }, { hash := PyData.keyHash w.params (Str.ofString "exponent"), key := .str (Str.ofString "exponent") rt3, val := .int re rt4 }] 2) ∈ news)  :
    Claim w mean mg mb 3 177 news [.ref rx] (RReal w news (True) ((0 - rm, re))) := by
  unfold Claim
  k_fill
  intro dp un gd cn cs a ccd cl outer A₀ base h₀ L m s Q E B F X N T hk hdp hun hret
  refine wpAny_call ?_
  k_dflt cell_enter
  k_steps
  all_goals refine ret_real hret (by assumption) (by assumption) (by kcj_all) (by k_mem) (by k_mem) ?_ ?_
  all_goals first
    | exact (trivial)
    | (rfl)
end Mine
local macro_rules | `(tactic| walk_at "call ref") => `(tactic| (k_here; (with_reducible show wpAny _ _ (call (Value.ref (nat_lit 177)) _) _ _ _); k_dflt (refine' (Mine.c_negative ?p0 ?p1).use ?k1 ?k2 ?k3 ?k4 ?k5 ?kK ?kd ?ku ?_; (case k1 => k_asm); (case k2 => k_asm); (case k3 => k_asm); (case k4 => k_asm); (case k5 => k_asm); (case kK => first | exact rfl | assumption); (case kd => first | exact Mine.room (by assumption) (by decide) | ktr_room); (case ku => first | exact Mine.units (by assumption) (by decide) | ktr_units); (case p0 => k_mem); (case p1 => k_mem)); (intro x9 d9 ta9 tb9 tc9 td9 h9 tk9 P9 F9 N9; (try dsimp only at N9); (try dsimp only); (try k_fold))))
namespace Mine
theorem c_magnitude {w : World} {mean : ExcName → Option Value} {mg mb : Str → Option Value} {news : Led} {rm re : Int} {rx rd : Addr} {rt1 rt2 rt3 rt4 : Tok} (hrx : (rx, instObj 89 rd) ∈ news) (hrd : (rd, dictOf [{ hash := PyData.keyHash w.params (Str.ofString "mantissa"), key := .str (Str.ofString "mantissa") rt1, val := .int rm rt2 }, { hash := PyData.keyHash w.params (Str.ofString "exponent"), key := .str (Str.ofString "exponent") rt3, val := .int re rt4 }] 2) ∈ news)  :
    Claim w mean mg mb 3 184 news [.ref rx] (RReal w news (True) ((ab rm, re))) := by
  unfold Claim
  k_fill
  intro dp un gd cn cs a ccd cl outer A₀ base h₀ L m s Q E B F X N T hk hdp hun hret
  refine wpAny_call ?_
  k_dflt cell_enter
  k_steps
  all_goals refine ret_real hret (by assumption) (by assumption) (by kcj_all) (by k_mem) (by k_mem) ?_ ?_
  all_goals first
    | exact (trivial)
    | (rfl)
end Mine
local macro_rules | `(tactic| walk_at "call ref") => `(tactic| (k_here; (with_reducible show wpAny _ _ (call (Value.ref (nat_lit 184)) _) _ _ _); k_dflt (refine' (Mine.c_magnitude ?p0 ?p1).use ?k1 ?k2 ?k3 ?k4 ?k5 ?kK ?kd ?ku ?_; (case k1 => k_asm); (case k2 => k_asm); (case k3 => k_asm); (case k4 => k_asm); (case k5 => k_asm); (case kK => first | exact rfl | assumption); (case kd => first | exact Mine.room (by assumption) (by decide) | ktr_room); (case ku => first | exact Mine.units (by assumption) (by decide) | ktr_units); (case p0 => k_mem); (case p1 => k_mem)); (intro x9 d9 ta9 tb9 tc9 td9 h9 tk9 P9 F9 N9; (try dsimp only at N9); (try dsimp only); (try k_fold))))
namespace Mine
theorem c_place_of {w : World} {mean : ExcName → Option Value} {mg mb : Str → Option Value} {news : Led} {rm re : Int} {rx rd : Addr} {rt1 rt2 rt3 rt4 : Tok} (hrx : (rx, instObj 89 rd) ∈ news) (hrd : (rd, dictOf [{ hash := PyData.keyHash w.params (Str.ofString "mantissa"), key := .str (Str.ofString "mantissa") rt1, val := .int rm rt2 }, { hash := PyData.keyHash w.params (Str.ofString "exponent"), key := .str (Str.ofString "exponent") rt3, val := .int re rt4 }] 2) ∈ news)  :
    Claim w mean mg mb 4 163 news [.ref rx] (RInt news (True) (sz rm + re)) := by
  unfold Claim
  k_fill
  intro dp un gd cn cs a ccd cl outer A₀ base h₀ L m s Q E B F X N T hk hdp hun hret
  refine wpAny_call ?_
  k_dflt cell_enter
  k_steps
  all_goals refine ret_int hret (by assumption) (by assumption) (by kcj_all) ?_ ?_
  all_goals first
    | exact (trivial)
    | (rfl)
end Mine
local macro_rules | `(tactic| walk_at "call ref") => `(tactic| (k_here; (with_reducible show wpAny _ _ (call (Value.ref (nat_lit 163)) _) _ _ _); k_dflt (refine' (Mine.c_place_of ?p0 ?p1).use ?k1 ?k2 ?k3 ?k4 ?k5 ?kK ?kd ?ku ?_; (case k1 => k_asm); (case k2 => k_asm); (case k3 => k_asm); (case k4 => k_asm); (case k5 => k_asm); (case kK => first | exact rfl | assumption); (case kd => first | exact Mine.room (by assumption) (by decide) | ktr_room); (case ku => first | exact Mine.units (by assumption) (by decide) | ktr_units); (case p0 => k_mem); (case p1 => k_mem)); (intro t9 h9 tk9 P9 F9 N9; (try dsimp only at N9); (try dsimp only); (try k_fold))))
namespace Mine
theorem c_sign_of {w : World} {mean : ExcName → Option Value} {mg mb : Str → Option Value} {news : Led} {rm re : Int} {rx rd : Addr} {rt1 rt2 rt3 rt4 : Tok} (hrx : (rx, instObj 89 rd) ∈ news) (hrd : (rd, dictOf [{ hash := PyData.keyHash w.params (Str.ofString "mantissa"), key := .str (Str.ofString "mantissa") rt1, val := .int rm rt2 }, { hash := PyData.keyHash w.params (Str.ofString "exponent"), key := .str (Str.ofString "exponent") rt3, val := .int re rt4 }] 2) ∈ news)  :
    Claim w mean mg mb 4 170 news [.ref rx] (RInt news (True) (sgn rm)) := by
  unfold Claim
  k_fill
  intro dp un gd cn cs a ccd cl outer A₀ base h₀ L m s Q E B F X N T hk hdp hun hret
  refine wpAny_call ?_
  k_dflt cell_enter
  k_steps
  all_goals refine ret_int hret (by assumption) (by assumption) (by kcj_all) ?_ ?_
  all_goals first
    | exact (trivial)
    | (rfl)
end Mine
local macro_rules | `(tactic| walk_at "call ref") => `(tactic| (k_here; (with_reducible show wpAny _ _ (call (Value.ref (nat_lit 170)) _) _ _ _); k_dflt (refine' (Mine.c_sign_of ?p0 ?p1).use ?k1 ?k2 ?k3 ?k4 ?k5 ?kK ?kd ?ku ?_; (case k1 => k_asm); (case k2 => k_asm); (case k3 => k_asm); (case k4 => k_asm); (case k5 => k_asm); (case kK => first | exact rfl | assumption); (case kd => first | exact Mine.room (by assumption) (by decide) | ktr_room); (case ku => first | exact Mine.units (by assumption) (by decide) | ktr_units); (case p0 => k_mem); (case p1 => k_mem)); (intro t9 h9 tk9 P9 F9 N9; (try dsimp only at N9); (try dsimp only); (try k_fold))))
namespace Mine
theorem c_same_real {w : World} {mean : ExcName → Option Value} {mg mb : Str → Option Value} {news : Led} {rm re : Int} {rx rd : Addr} {rt1 rt2 rt3 rt4 : Tok} {qm qe : Int} {qx qd : Addr} {qt1 qt2 qt3 qt4 : Tok} (hrx : (rx, instObj 89 rd) ∈ news) (hrd : (rd, dictOf [{ hash := PyData.keyHash w.params (Str.ofString "mantissa"), key := .str (Str.ofString "mantissa") rt1, val := .int rm rt2 }, { hash := PyData.keyHash w.params (Str.ofString "exponent"), key := .str (Str.ofString "exponent") rt3, val := .int re rt4 }] 2) ∈ news) (hqx : (qx, instObj 89 qd) ∈ news) (hqd : (qd, dictOf [{ hash := PyData.keyHash w.params (Str.ofString "mantissa"), key := .str (Str.ofString "mantissa") qt1, val := .int qm qt2 }, { hash := PyData.keyHash w.params (Str.ofString "exponent"), key := .str (Str.ofString "exponent") qt3, val := .int qe qt4 }] 2) ∈ news)  :
    Claim w mean mg mb 2 191 news [.ref rx, .ref qx] (RBool news (True) (decide (rm = qm ∧ re = qe))) := by
  unfold Claim
  k_fill
  intro dp un gd cn cs a ccd cl outer A₀ base h₀ L m s Q E B F X N T hk hdp hun hret
  refine wpAny_call ?_
  k_dflt cell_enter
  k_steps
  all_goals refine ret_bool hret (by assumption) (by assumption) (by kcj_all) ?_ ?_
  all_goals first
    | exact (trivial)
    | (rw [Bool.eq_iff_iff]; simp only [beq_iff_eq, decide_eq_true_eq]; omega)
end Mine
local macro_rules | `(tactic| walk_at "call ref") => `(tactic| (k_here; (with_reducible show wpAny _ _ (call (Value.ref (nat_lit 191)) _) _ _ _); k_dflt (refine' (Mine.c_same_real ?p0 ?p1 ?p2 ?p3).use ?k1 ?k2 ?k3 ?k4 ?k5 ?kK ?kd ?ku ?_; (case k1 => k_asm); (case k2 => k_asm); (case k3 => k_asm); (case k4 => k_asm); (case k5 => k_asm); (case kK => first | exact rfl | assumption); (case kd => first | exact Mine.room (by assumption) (by decide) | ktr_room); (case ku => first | exact Mine.units (by assumption) (by decide) | ktr_units); (case p0 => k_mem); (case p1 => k_mem); (case p2 => k_mem); (case p3 => k_mem)); (intro h9 tk9 P9 F9 N9; (try dsimp only at N9); (try dsimp only); (try k_fold))))
namespace Mine
theorem c_exact_parts {w : World} {mean : ExcName → Option Value} {mg mb : Str → Option Value} {news : Led} {rm re : Int} {rx rd : Addr} {rt1 rt2 rt3 rt4 : Tok} (hrx : (rx, instObj 89 rd) ∈ news) (hrd : (rd, dictOf [{ hash := PyData.keyHash w.params (Str.ofString "mantissa"), key := .str (Str.ofString "mantissa") rt1, val := .int rm rt2 }, { hash := PyData.keyHash w.params (Str.ofString "exponent"), key := .str (Str.ofString "exponent") rt3, val := .int re rt4 }] 2) ∈ news) (hm : -18446744073709551616 < rm ∧ rm < 18446744073709551616) (he : -10000 ≤ re ∧ re ≤ 10000) :
    Claim w mean mg mb 2 156 news [.ref rx] (RTup news (True) (exP rm re)) := by
  unfold Claim
  k_fill
  intro dp un gd cn cs a ccd cl outer A₀ base h₀ L m s Q E B F X N T hk hdp hun hret
  refine wpAny_call ?_
  k_dflt cell_enter
  k_steps
  all_goals refine ret_tup hret (by assumption) (by assumption) (by kcj_all) (by k_mem) ?_ ?_
  all_goals first
    | exact (trivial)
    | (unfold exP; (repeat' split) <;> first | rfl | contradiction | (exfalso; omega))
end Mine
local macro_rules | `(tactic| walk_at "call ref") => `(tactic| (k_here; (with_reducible show wpAny _ _ (call (Value.ref (nat_lit 156)) _) _ _ _); k_dflt (refine' (Mine.c_exact_parts ?p0 ?p1 ?p2 ?p3).use ?k1 ?k2 ?k3 ?k4 ?k5 ?kK ?kd ?ku ?_; (case k1 => k_asm); (case k2 => k_asm); (case k3 => k_asm); (case k4 => k_asm); (case k5 => k_asm); (case kK => first | exact rfl | assumption); (case kd => first | exact Mine.room (by assumption) (by decide) | ktr_room); (case ku => first | exact Mine.units (by assumption) (by decide) | ktr_units); (case p0 => k_mem); (case p1 => k_mem); (case p2 => first | assumption | omega); (case p3 => first | assumption | omega)); (intro x9 ta9 tb9 n9 h9 tk9 P9 F9 N9; (try dsimp only at N9); (try dsimp only); (try k_fold))))
namespace Mine
theorem c_whole_of {w : World} {mean : ExcName → Option Value} {mg mb : Str → Option Value} {news : Led} {rm re : Int} {rx rd : Addr} {rt1 rt2 rt3 rt4 : Tok} (hrx : (rx, instObj 89 rd) ∈ news) (hrd : (rd, dictOf [{ hash := PyData.keyHash w.params (Str.ofString "mantissa"), key := .str (Str.ofString "mantissa") rt1, val := .int rm rt2 }, { hash := PyData.keyHash w.params (Str.ofString "exponent"), key := .str (Str.ofString "exponent") rt3, val := .int re rt4 }] 2) ∈ news) (hm : -18446744073709551616 < rm ∧ rm < 18446744073709551616) (he : 0 ≤ re ∧ re ≤ 10000) :
    Claim w mean mg mb 2 212 news [.ref rx] (RInt news (True) (rm * 2 ^ re.toNat)) := by
  unfold Claim
  k_fill
  intro dp un gd cn cs a ccd cl outer A₀ base h₀ L m s Q E B F X N T hk hdp hun hret
  refine wpAny_call ?_
  k_dflt cell_enter
  k_steps
  all_goals refine ret_int hret (by assumption) (by assumption) (by kcj_all) ?_ ?_
  all_goals first
    | exact (trivial)
    | (rfl)
end Mine
local macro_rules | `(tactic| walk_at "call ref") => `(tactic| (k_here; (with_reducible show wpAny _ _ (call (Value.ref (nat_lit 212)) _) _ _ _); k_dflt (refine' (Mine.c_whole_of ?p0 ?p1 ?p2 ?p3).use ?k1 ?k2 ?k3 ?k4 ?k5 ?kK ?kd ?ku ?_; (case k1 => k_asm); (case k2 => k_asm); (case k3 => k_asm); (case k4 => k_asm); (case k5 => k_asm); (case kK => first | exact rfl | assumption); (case kd => first | exact Mine.room (by assumption) (by decide) | ktr_room); (case ku => first | exact Mine.units (by assumption) (by decide) | ktr_units); (case p0 => k_mem); (case p1 => k_mem); (case p2 => first | assumption | omega); (case p3 => first | assumption | omega)); (intro t9 h9 tk9 P9 F9 N9; (try dsimp only at N9); (try dsimp only); (try k_fold))))
namespace Mine
theorem c_full_mantissa {w : World} {mean : ExcName → Option Value} {mg mb : Str → Option Value} {news : Led} {p : Int} {tp : Tok} {rm re : Int} {rx rd : Addr} {rt1 rt2 rt3 rt4 : Tok} (hrx : (rx, instObj 89 rd) ∈ news) (hrd : (rd, dictOf [{ hash := PyData.keyHash w.params (Str.ofString "mantissa"), key := .str (Str.ofString "mantissa") rt1, val := .int rm rt2 }, { hash := PyData.keyHash w.params (Str.ofString "exponent"), key := .str (Str.ofString "exponent") rt3, val := .int re rt4 }] 2) ∈ news) (hm : -18446744073709551616 < rm ∧ rm < 18446744073709551616) (he : sz rm ≤ p ∧ p ≤ 10000) :
    Claim w mean mg mb 4 247 news [.int p tp, .ref rx] (RTup news (True) (fmP p rm re)) := by
  unfold Claim
  k_fill
  intro dp un gd cn cs a ccd cl outer A₀ base h₀ L m s Q E B F X N T hk hdp hun hret
  have hs0 := sz_nonneg rm
  have ha := ab_fact rm
  have ha2 : ab rm < 18446744073709551616 := by omega
  refine wpAny_call ?_
  k_dflt cell_enter
  k_steps
  all_goals refine ret_tup hret (by assumption) (by assumption) (by kcj_all) (by k_mem) ?_ ?_
  all_goals first
    | exact (trivial)
    | (rfl)
end Mine
local macro_rules | `(tactic| walk_at "call ref") => `(tactic| (k_here; (with_reducible show wpAny _ _ (call (Value.ref (nat_lit 247)) _) _ _ _); k_dflt (refine' (Mine.c_full_mantissa ?p0 ?p1 ?p2 ?p3).use ?k1 ?k2 ?k3 ?k4 ?k5 ?kK ?kd ?ku ?_; (case k1 => k_asm); (case k2 => k_asm); (case k3 => k_asm); (case k4 => k_asm); (case k5 => k_asm); (case kK => first | exact rfl | assumption); (case kd => first | exact Mine.room (by assumption) (by decide) | ktr_room); (case ku => first | exact Mine.units (by assumption) (by decide) | ktr_units); (case p0 => k_mem); (case p1 => k_mem); (case p2 => first | assumption | omega); (case p3 => first | assumption | omega)); (intro x9 ta9 tb9 n9 h9 tk9 P9 F9 N9; (try dsimp only at N9); (try dsimp only); (try k_fold))))
namespace Mine
theorem c_shifted_round {w : World} {mean : ExcName → Option Value} {mg mb : Str → Option Value} {news : Led} {p : Int} {tp : Tok} {mt : Int} {tmt : Tok} {ex : Int} {tex : Tok}  (hm : -4611686018427387904 < mt ∧ mt < 4611686018427387904) (he : -10000 ≤ ex ∧ ex ≤ 10000) (hp : 0 ≤ p ∧ p ≤ 10000) :
    Claim w mean mg mb 7 135 news [.int p tp, .int mt tmt, .int ex tex] (RReal w news (True) (shrP p mt ex)) := by
  unfold Claim
  k_fill
  intro dp un gd cn cs a ccd cl outer A₀ base h₀ L m s Q E B F X N T hk hdp hun hret
  have hs0 := sz_nonneg mt
  have hs1 := sz_le64 (n := mt) (by omega)
  have ha := ab_nonneg mt
  have ha2 : ab mt < 4611686018427387904 := by unfold ab; split <;> omega
  have hn := nsh_bd ha (sz mt - p)
  have hg := sgn_mul mt (nsh (ab mt) (sz mt - p))
  have hg1 := sgn_bd mt
  have hl1 := sz_leanP_pre (n := mt) (e := ex) (by omega) (by omega)
  have hl2 := sz_leanP_pre (n := sgn mt * nsh (ab mt) (sz mt - p)) (e := ex + (sz mt - p)) (by omega) (by omega)
  refine wpAny_call ?_
  k_dflt cell_enter
  k_steps
  all_goals refine ret_real hret (by assumption) (by assumption) (by kcj_all) (by k_mem) (by k_mem) ?_ ?_
  all_goals first
    | exact (trivial)
    | (unfold shrP; (repeat' split) <;> first | rfl | contradiction | (exfalso; omega))
end Mine
local macro_rules | `(tactic| walk_at "call ref") => `(tactic| (k_here; (with_reducible show wpAny _ _ (call (Value.ref (nat_lit 135)) _) _ _ _); k_dflt (refine' (Mine.c_shifted_round ?p0 ?p1 ?p2).use ?k1 ?k2 ?k3 ?k4 ?k5 ?kK ?kd ?ku ?_; (case k1 => k_asm); (case k2 => k_asm); (case k3 => k_asm); (case k4 => k_asm); (case k5 => k_asm); (case kK => first | exact rfl | assumption); (case kd => first | exact Mine.room (by assumption) (by decide) | ktr_room); (case ku => first | exact Mine.units (by assumption) (by decide) | ktr_units); (case p0 => first | assumption | omega); (case p1 => first | assumption | omega); (case p2 => first | assumption | omega)); (intro x9 d9 ta9 tb9 tc9 td9 h9 tk9 P9 F9 N9; (try dsimp only at N9); (try dsimp only); (try k_fold))))
namespace Mine
theorem c_floor_real {w : World} {mean : ExcName → Option Value} {mg mb : Str → Option Value} {news : Led} {rm re : Int} {rx rd : Addr} {rt1 rt2 rt3 rt4 : Tok} (hrx : (rx, instObj 89 rd) ∈ news) (hrd : (rd, dictOf [{ hash := PyData.keyHash w.params (Str.ofString "mantissa"), key := .str (Str.ofString "mantissa") rt1, val := .int rm rt2 }, { hash := PyData.keyHash w.params (Str.ofString "exponent"), key := .str (Str.ofString "exponent") rt3, val := .int re rt4 }] 2) ∈ news) (h1 : -18446744073709551616 < rm ∧ rm < 18446744073709551616) (h2 : -10000 ≤ re ∧ re ≤ 10000) :
    Claim w mean mg mb 7 219 news [.ref rx] (RReal w news (True) (flP rm re)) := by
  unfold Claim
  k_fill
  intro dp un gd cn cs a ccd cl outer A₀ base h₀ L m s Q E B F X N T hk hdp hun hret
  have hf := fdiv_bd rm (0 - re).toNat
  have hl := sz_leanP_pre (n := rm.fdiv (2 ^ (0 - re).toNat)) (e := 0) (by omega) (by omega)
  refine wpAny_call ?_
  k_dflt cell_enter
  k_steps
  all_goals refine ret_real hret (by assumption) (by assumption) (by kcj_all) (by k_mem) (by k_mem) ?_ ?_
  all_goals first
    | exact (trivial)
    | (unfold flP; (repeat' split) <;> first | rfl | contradiction | (exfalso; omega))
end Mine
local macro_rules | `(tactic| walk_at "call ref") => `(tactic| (k_here; (with_reducible show wpAny _ _ (call (Value.ref (nat_lit 219)) _) _ _ _); k_dflt (refine' (Mine.c_floor_real ?p0 ?p1 ?p2 ?p3).use ?k1 ?k2 ?k3 ?k4 ?k5 ?kK ?kd ?ku ?_; (case k1 => k_asm); (case k2 => k_asm); (case k3 => k_asm); (case k4 => k_asm); (case k5 => k_asm); (case kK => first | exact rfl | assumption); (case kd => first | exact Mine.room (by assumption) (by decide) | ktr_room); (case ku => first | exact Mine.units (by assumption) (by decide) | ktr_units); (case p0 => k_mem); (case p1 => k_mem); (case p2 => first | assumption | omega); (case p3 => first | assumption | omega)); (intro x9 d9 ta9 tb9 tc9 td9 h9 tk9 P9 F9 N9; (try dsimp only at N9); (try dsimp only); (try k_fold))))
namespace Mine
theorem c_farther {w : World} {mean : ExcName → Option Value} {mg mb : Str → Option Value} {news : Led} {p : Int} {tp : Tok} {rm re : Int} {rx rd : Addr} {rt1 rt2 rt3 rt4 : Tok} (hrx : (rx, instObj 89 rd) ∈ news) (hrd : (rd, dictOf [{ hash := PyData.keyHash w.params (Str.ofString "mantissa"), key := .str (Str.ofString "mantissa") rt1, val := .int rm rt2 }, { hash := PyData.keyHash w.params (Str.ofString "exponent"), key := .str (Str.ofString "exponent") rt3, val := .int re rt4 }] 2) ∈ news) (h1 : -18446744073709551616 < rm ∧ rm < 18446744073709551616) (h2 : -10000 ≤ re ∧ re ≤ 10000) (hp : sz rm ≤ p ∧ p ≤ 20) (hp1 : 1 ≤ p) :
    Claim w mean mg mb 8 254 news [.int p tp, .ref rx] (RReal w news (True) (farP p rm re)) := by
  unfold Claim
  k_fill
  intro dp un gd cn cs a ccd cl outer A₀ base h₀ L m s Q E B F X N T hk hdp hun hret
  have hs0 := sz_nonneg rm
  have hf := fm_lt20 hp.1 hp.2
  have hg1 := sgn_bd rm
  have hg := sgn_mul rm ((fmP p rm re).1 + 1)
  have hl := sz_leanP_pre (n := sgn rm * ((fmP p rm re).1 + 1)) (e := (fmP p rm re).2) (by unfold fmP at *; dsimp only at *; omega) (by unfold fmP; dsimp only; omega)
  refine wpAny_call ?_
  k_dflt cell_enter
  k_steps
  all_goals refine ret_real hret (by assumption) (by assumption) (by kcj_all) (by k_mem) (by k_mem) ?_ ?_
  all_goals first
    | exact (trivial)
    | (rfl)
end Mine
local macro_rules | `(tactic| walk_at "call ref") => `(tactic| (k_here; (with_reducible show wpAny _ _ (call (Value.ref (nat_lit 254)) _) _ _ _); k_dflt (refine' (Mine.c_farther ?p0 ?p1 ?p2 ?p3 ?p4 ?p5).use ?k1 ?k2 ?k3 ?k4 ?k5 ?kK ?kd ?ku ?_; (case k1 => k_asm); (case k2 => k_asm); (case k3 => k_asm); (case k4 => k_asm); (case k5 => k_asm); (case kK => first | exact rfl | assumption); (case kd => first | exact Mine.room (by assumption) (by decide) | ktr_room); (case ku => first | exact Mine.units (by assumption) (by decide) | ktr_units); (case p0 => k_mem); (case p1 => k_mem); (case p2 => first | assumption | omega); (case p3 => first | assumption | omega); (case p4 => first | assumption | omega); (case p5 => first | assumption | omega)); (intro x9 d9 ta9 tb9 tc9 td9 h9 tk9 P9 F9 N9; (try dsimp only at N9); (try dsimp only); (try k_fold))))
namespace Mine
theorem c_nearer {w : World} {mean : ExcName → Option Value} {mg mb : Str → Option Value} {news : Led} {p : Int} {tp : Tok} {rm re : Int} {rx rd : Addr} {rt1 rt2 rt3 rt4 : Tok} (hrx : (rx, instObj 89 rd) ∈ news) (hrd : (rd, dictOf [{ hash := PyData.keyHash w.params (Str.ofString "mantissa"), key := .str (Str.ofString "mantissa") rt1, val := .int rm rt2 }, { hash := PyData.keyHash w.params (Str.ofString "exponent"), key := .str (Str.ofString "exponent") rt3, val := .int re rt4 }] 2) ∈ news) (h1 : -18446744073709551616 < rm ∧ rm < 18446744073709551616) (h2 : -10000 ≤ re ∧ re ≤ 10000) (hp : sz rm ≤ p ∧ p ≤ 20) (hp1 : 1 ≤ p) :
    Claim w mean mg mb 8 261 news [.int p tp, .ref rx] (RReal w news (True) (neaP p rm re)) := by
  unfold Claim
  k_fill
  intro dp un gd cn cs a ccd cl outer A₀ base h₀ L m s Q E B F X N T hk hdp hun hret
  have hs0 := sz_nonneg rm
  have hf := fm_lt20 hp.1 hp.2
  have hg1 := sgn_bd rm
  have hg := sgn_mul rm ((fmP p rm re).1 - 1)
  have hg' := sgn_mul rm (2 * (fmP p rm re).1 - 1)
  have hl := sz_leanP_pre (n := sgn rm * ((fmP p rm re).1 - 1)) (e := (fmP p rm re).2) (by unfold fmP at *; dsimp only at *; omega) (by unfold fmP; dsimp only; omega)
  have hl' := sz_leanP_pre (n := sgn rm * (2 * (fmP p rm re).1 - 1)) (e := (fmP p rm re).2 - 1) (by unfold fmP at *; dsimp only at *; omega) (by unfold fmP; dsimp only; omega)
  refine wpAny_call ?_
  k_dflt cell_enter
  k_steps
  all_goals refine ret_real hret (by assumption) (by assumption) (by kcj_all) (by k_mem) (by k_mem) ?_ ?_
  all_goals first
    | exact (trivial)
    | (unfold neaP; (repeat' split) <;> first | rfl | contradiction | (exfalso; omega))
end Mine
local macro_rules | `(tactic| walk_at "call ref") => `(tactic| (k_here; (with_reducible show wpAny _ _ (call (Value.ref (nat_lit 261)) _) _ _ _); k_dflt (refine' (Mine.c_nearer ?p0 ?p1 ?p2 ?p3 ?p4 ?p5).use ?k1 ?k2 ?k3 ?k4 ?k5 ?kK ?kd ?ku ?_; (case k1 => k_asm); (case k2 => k_asm); (case k3 => k_asm); (case k4 => k_asm); (case k5 => k_asm); (case kK => first | exact rfl | assumption); (case kd => first | exact Mine.room (by assumption) (by decide) | ktr_room); (case ku => first | exact Mine.units (by assumption) (by decide) | ktr_units); (case p0 => k_mem); (case p1 => k_mem); (case p2 => first | assumption | omega); (case p3 => first | assumption | omega); (case p4 => first | assumption | omega); (case p5 => first | assumption | omega)); (intro x9 d9 ta9 tb9 tc9 td9 h9 tk9 P9 F9 N9; (try dsimp only at N9); (try dsimp only); (try k_fold))))
namespace Mine
theorem c_compare_magnitudes {w : World} {mean : ExcName → Option Value} {mg mb : Str → Option Value} {news : Led} {rm re : Int} {rx rd : Addr} {rt1 rt2 rt3 rt4 : Tok} {qm qe : Int} {qx qd : Addr} {qt1 qt2 qt3 qt4 : Tok} (hrx : (rx, instObj 89 rd) ∈ news) (hrd : (rd, dictOf [{ hash := PyData.keyHash w.params (Str.ofString "mantissa"), key := .str (Str.ofString "mantissa") rt1, val := .int rm rt2 }, { hash := PyData.keyHash w.params (Str.ofString "exponent"), key := .str (Str.ofString "exponent") rt3, val := .int re rt4 }] 2) ∈ news) (hqx : (qx, instObj 89 qd) ∈ news) (hqd : (qd, dictOf [{ hash := PyData.keyHash w.params (Str.ofString "mantissa"), key := .str (Str.ofString "mantissa") qt1, val := .int qm qt2 }, { hash := PyData.keyHash w.params (Str.ofString "exponent"), key := .str (Str.ofString "exponent") qt3, val := .int qe qt4 }] 2) ∈ news) (h1 : -18446744073709551616 < rm ∧ rm < 18446744073709551616) (h2 : -10000 ≤ re ∧ re ≤ 10000) (h3 : -18446744073709551616 < qm ∧ qm < 18446744073709551616) (h4 : -10000 ≤ qe ∧ qe ≤ 10000) :
    Claim w mean mg mb 6 198 news [.ref rx, .ref qx] (RInt news (True) (cmpM rm re qm qe)) := by
  unfold Claim
  k_fill
  intro dp un gd cn cs a ccd cl outer A₀ base h₀ L m s Q E B F X N T hk hdp hun hret
  refine wpAny_call ?_
  k_dflt cell_enter
  k_steps
  all_goals refine ret_int hret (by assumption) (by assumption) (by kcj_all) ?_ ?_
  all_goals first
    | exact (trivial)
    | (unfold cmpM mnP; (repeat' split) <;> first | rfl | contradiction | (exfalso; omega))
end Mine
local macro_rules | `(tactic| walk_at "call ref") => `(tactic| (k_here; (with_reducible show wpAny _ _ (call (Value.ref (nat_lit 198)) _) _ _ _); k_dflt (refine' (Mine.c_compare_magnitudes ?p0 ?p1 ?p2 ?p3 ?p4 ?p5 ?p6 ?p7).use ?k1 ?k2 ?k3 ?k4 ?k5 ?kK ?kd ?ku ?_; (case k1 => k_asm); (case k2 => k_asm); (case k3 => k_asm); (case k4 => k_asm); (case k5 => k_asm); (case kK => first | exact rfl | assumption); (case kd => first | exact Mine.room (by assumption) (by decide) | ktr_room); (case ku => first | exact Mine.units (by assumption) (by decide) | ktr_units); (case p0 => k_mem); (case p1 => k_mem); (case p2 => k_mem); (case p3 => k_mem); (case p4 => first | assumption | omega); (case p5 => first | assumption | omega); (case p6 => first | assumption | omega); (case p7 => first | assumption | omega)); (intro t9 h9 tk9 P9 F9 N9; (try dsimp only at N9); (try dsimp only); (try k_fold))))
namespace Mine
theorem c_law_gap {w : World} {mean : ExcName → Option Value} {mg mb : Str → Option Value} {news : Led} {rm re : Int} {rx rd : Addr} {rt1 rt2 rt3 rt4 : Tok} {q0 q1 : Int} {qx : Addr} {qt1 qt2 : Tok} {qn : Nat} (hrx : (rx, instObj 89 rd) ∈ news) (hrd : (rd, dictOf [{ hash := PyData.keyHash w.params (Str.ofString "mantissa"), key := .str (Str.ofString "mantissa") rt1, val := .int rm rt2 }, { hash := PyData.keyHash w.params (Str.ofString "exponent"), key := .str (Str.ofString "exponent") rt3, val := .int re rt4 }] 2) ∈ news) (hqx : (qx, ({ cls := .type "tuple", data := .seq #[.int q0 qt1, .int q1 qt2] qn } : Obj)) ∈ news) (h1 : -18446744073709551616 < rm ∧ rm < 18446744073709551616) (h2 : -10000 ≤ re ∧ re ≤ 10000) (h3 : -18446744073709551616 < q0 ∧ q0 < 18446744073709551616) (h4 : -18446744073709551616 < q1 ∧ q1 < 18446744073709551616) :
    Claim w mean mg mb 4 296 news [.ref rx, .ref qx] (RTup news (True) (gapP rm re q0 q1)) := by
  unfold Claim
  k_fill
  intro dp un gd cn cs a ccd cl outer A₀ base h₀ L m s Q E B F X N T hk hdp hun hret
  refine wpAny_call ?_
  k_dflt cell_enter
  k_steps
  all_goals refine ret_tup hret (by assumption) (by assumption) (by kcj_all) (by k_mem) ?_ ?_
  all_goals first
    | exact (trivial)
    | (rfl)
end Mine
local macro_rules | `(tactic| walk_at "call ref") => `(tactic| (k_here; (with_reducible show wpAny _ _ (call (Value.ref (nat_lit 296)) _) _ _ _); k_dflt (refine' (Mine.c_law_gap ?p0 ?p1 ?p2 ?p3 ?p4 ?p5 ?p6).use ?k1 ?k2 ?k3 ?k4 ?k5 ?kK ?kd ?ku ?_; (case k1 => k_asm); (case k2 => k_asm); (case k3 => k_asm); (case k4 => k_asm); (case k5 => k_asm); (case kK => first | exact rfl | assumption); (case kd => first | exact Mine.room (by assumption) (by decide) | ktr_room); (case ku => first | exact Mine.units (by assumption) (by decide) | ktr_units); (case p0 => k_mem); (case p1 => k_mem); (case p2 => k_mem); (case p3 => first | assumption | omega); (case p4 => first | assumption | omega); (case p5 => first | assumption | omega); (case p6 => first | assumption | omega)); (intro x9 ta9 tb9 n9 h9 tk9 P9 F9 N9; (try dsimp only at N9); (try dsimp only); (try k_fold))))
namespace Mine
theorem c_law_is_less {w : World} {mean : ExcName → Option Value} {mg mb : Str → Option Value} {news : Led} {r0 r1 : Int} {rx : Addr} {rt1 rt2 : Tok} {rn : Nat} {q0 q1 : Int} {qx : Addr} {qt1 qt2 : Tok} {qn : Nat} (hrx : (rx, ({ cls := .type "tuple", data := .seq #[.int r0 rt1, .int r1 rt2] rn } : Obj)) ∈ news) (hqx : (qx, ({ cls := .type "tuple", data := .seq #[.int q0 qt1, .int q1 qt2] qn } : Obj)) ∈ news) (h1 : -18446744073709551616 < r0 ∧ r0 < 18446744073709551616) (h2 : -18446744073709551616 < q0 ∧ q0 < 18446744073709551616) :
    Claim w mean mg mb 2 303 news [.ref rx, .ref qx] (RBool news (True) (lessP r0 r1 q0 q1)) := by
  unfold Claim
  k_fill
  intro dp un gd cn cs a ccd cl outer A₀ base h₀ L m s Q E B F X N T hk hdp hun hret
  refine wpAny_call ?_
  k_dflt cell_enter
  k_steps
  all_goals refine ret_bool hret (by assumption) (by assumption) (by kcj_all) ?_ ?_
  all_goals first
    | exact (trivial)
    | (rfl)
end Mine
local macro_rules | `(tactic| walk_at "call ref") => `(tactic| (k_here; (with_reducible show wpAny _ _ (call (Value.ref (nat_lit 303)) _) _ _ _); k_dflt (refine' (Mine.c_law_is_less ?p0 ?p1 ?p2 ?p3).use ?k1 ?k2 ?k3 ?k4 ?k5 ?kK ?kd ?ku ?_; (case k1 => k_asm); (case k2 => k_asm); (case k3 => k_asm); (case k4 => k_asm); (case k5 => k_asm); (case kK => first | exact rfl | assumption); (case kd => first | exact Mine.room (by assumption) (by decide) | ktr_room); (case ku => first | exact Mine.units (by assumption) (by decide) | ktr_units); (case p0 => k_mem); (case p1 => k_mem); (case p2 => first | assumption | omega); (case p3 => first | assumption | omega)); (intro h9 tk9 P9 F9 N9; (try dsimp only at N9); (try dsimp only); (try k_fold))))
namespace Mine
theorem c_round_real {w : World} {mean : ExcName → Option Value} {mg mb : Str → Option Value} {news : Led} {rm re : Int} {rx rd : Addr} {rt1 rt2 rt3 rt4 : Tok} (hrx : (rx, instObj 89 rd) ∈ news) (hrd : (rd, dictOf [{ hash := PyData.keyHash w.params (Str.ofString "mantissa"), key := .str (Str.ofString "mantissa") rt1, val := .int rm rt2 }, { hash := PyData.keyHash w.params (Str.ofString "exponent"), key := .str (Str.ofString "exponent") rt3, val := .int re rt4 }] 2) ∈ news) (h1 : -4611686018427387904 < rm ∧ rm < 4611686018427387904) (h2 : -10000 ≤ re ∧ re ≤ 10000) :
    Claim w mean mg mb 9 240 news [.ref rx] (RReal w news (True) (roP rm re)) := by
  unfold Claim
  k_fill
  intro dp un gd cn cs a ccd cl outer A₀ base h₀ L m s Q E B F X N T hk hdp hun hret
  have ha := ab_nonneg rm
  have ha2 : ab rm < 4611686018427387904 := by unfold ab; split <;> omega
  have hn := nsh_bd ha (0 - re)
  have hg := sgn_mul rm (nsh (ab rm) (0 - re))
  have hg1 := sgn_bd rm
  have hl := sz_leanP_pre (n := sgn rm * nsh (ab rm) (0 - re)) (e := 0) (by omega) (by omega)
  refine wpAny_call ?_
  k_dflt cell_enter
  k_steps
  all_goals refine ret_real hret (by assumption) (by assumption) (by kcj_all) (by k_mem) (by k_mem) ?_ ?_
  all_goals first
    | exact (trivial)
    | (unfold roP; (repeat' split) <;> first | rfl | contradiction | (exfalso; omega))
end Mine
local macro_rules | `(tactic| walk_at "call ref") => `(tactic| (k_here; (with_reducible show wpAny _ _ (call (Value.ref (nat_lit 240)) _) _ _ _); k_dflt (refine' (Mine.c_round_real ?p0 ?p1 ?p2 ?p3).use ?k1 ?k2 ?k3 ?k4 ?k5 ?kK ?kd ?ku ?_; (case k1 => k_asm); (case k2 => k_asm); (case k3 => k_asm); (case k4 => k_asm); (case k5 => k_asm); (case kK => first | exact rfl | assumption); (case kd => first | exact Mine.room (by assumption) (by decide) | ktr_room); (case ku => first | exact Mine.units (by assumption) (by decide) | ktr_units); (case p0 => k_mem); (case p1 => k_mem); (case p2 => first | assumption | omega); (case p3 => first | assumption | omega)); (intro x9 d9 ta9 tb9 tc9 td9 h9 tk9 P9 F9 N9; (try dsimp only at N9); (try dsimp only); (try k_fold))))
namespace Mine
theorem c_compare_reals {w : World} {mean : ExcName → Option Value} {mg mb : Str → Option Value} {news : Led} {rm re : Int} {rx rd : Addr} {rt1 rt2 rt3 rt4 : Tok} {qm qe : Int} {qx qd : Addr} {qt1 qt2 qt3 qt4 : Tok} (hrx : (rx, instObj 89 rd) ∈ news) (hrd : (rd, dictOf [{ hash := PyData.keyHash w.params (Str.ofString "mantissa"), key := .str (Str.ofString "mantissa") rt1, val := .int rm rt2 }, { hash := PyData.keyHash w.params (Str.ofString "exponent"), key := .str (Str.ofString "exponent") rt3, val := .int re rt4 }] 2) ∈ news) (hqx : (qx, instObj 89 qd) ∈ news) (hqd : (qd, dictOf [{ hash := PyData.keyHash w.params (Str.ofString "mantissa"), key := .str (Str.ofString "mantissa") qt1, val := .int qm qt2 }, { hash := PyData.keyHash w.params (Str.ofString "exponent"), key := .str (Str.ofString "exponent") qt3, val := .int qe qt4 }] 2) ∈ news) (h1 : -18446744073709551616 < rm ∧ rm < 18446744073709551616) (h2 : -10000 ≤ re ∧ re ≤ 10000) (h3 : -18446744073709551616 < qm ∧ qm < 18446744073709551616) (h4 : -10000 ≤ qe ∧ qe ≤ 10000) :
    Claim w mean mg mb 8 205 news [.ref rx, .ref qx] (RInt news (True) (cmpR rm re qm qe)) := by
  unfold Claim
  k_fill
  intro dp un gd cn cs a ccd cl outer A₀ base h₀ L m s Q E B F X N T hk hdp hun hret
  have hg1 := sgn_bd rm
  have hg2 := sgn_bd qm
  have ha1 : -18446744073709551616 < ab rm ∧ ab rm < 18446744073709551616 := by unfold ab; split <;> omega
  have ha2 : -18446744073709551616 < ab qm ∧ ab qm < 18446744073709551616 := by unfold ab; split <;> omega
  refine wpAny_call ?_
  k_dflt cell_enter
  k_steps
  all_goals refine ret_int hret (by assumption) (by assumption) (by kcj_all) ?_ ?_
  all_goals first
    | exact (trivial)
    | (unfold cmpR; (repeat' split) <;> first | rfl | contradiction | (exfalso; omega))
end Mine
local macro_rules | `(tactic| walk_at "call ref") => `(tactic| (k_here; (with_reducible show wpAny _ _ (call (Value.ref (nat_lit 205)) _) _ _ _); k_dflt (refine' (Mine.c_compare_reals ?p0 ?p1 ?p2 ?p3 ?p4 ?p5 ?p6 ?p7).use ?k1 ?k2 ?k3 ?k4 ?k5 ?kK ?kd ?ku ?_; (case k1 => k_asm); (case k2 => k_asm); (case k3 => k_asm); (case k4 => k_asm); (case k5 => k_asm); (case kK => first | exact rfl | assumption); (case kd => first | exact Mine.room (by assumption) (by decide) | ktr_room); (case ku => first | exact Mine.units (by assumption) (by decide) | ktr_units); (case p0 => k_mem); (case p1 => k_mem); (case p2 => k_mem); (case p3 => k_mem); (case p4 => first | assumption | omega); (case p5 => first | assumption | omega); (case p6 => first | assumption | omega); (case p7 => first | assumption | omega)); (intro t9 h9 tk9 P9 F9 N9; (try dsimp only at N9); (try dsimp only); (try k_fold))))
namespace Mine
theorem c_rounded {w : World} {mean : ExcName → Option Value} {mg mb : Str → Option Value} {news : Led} {p : Int} {tp : Tok} {nu : Int} {tnu : Tok} {de : Int} {tde : Tok}  (h1 : -1099511627776 < nu ∧ nu < 1099511627776) (h2 : 0 < de ∧ de < 1099511627776) (hp : 2 ≤ p ∧ p ≤ 20) :
    Claim w mean mg mb 9 149 news [.int p tp, .int nu tnu, .int de tde] (RReal w news (True) (rndP p nu de)) := by
  unfold Claim
  k_fill
  intro dp un gd cn cs a ccd cl outer A₀ base h₀ L m s Q E B F X N T hk hdp hun hret
  have hs1 := sz_le40 (n := nu) (by omega)
  have hs2 := sz_le40 (n := de) (by omega)
  have hs3 := sz_nonneg nu
  have hs4 := sz_nonneg de
  have ha := ab_fact nu
  have ha2 : ab nu < 1099511627776 := by omega
  have hg1 := sgn_bd nu
  have hq1 := Int.ne_of_gt (Int.mul_pos h2.1 (p2pos (0 - (p + 2 + sz de - sz nu)).toNat))
  have hq2 := sz_mul_pow h2.1 (0 - (p + 2 + sz de - sz nu)).toNat
  have hM := rnd_pre nu h2.1 (by omega) hp.2
  refine wpAny_call ?_
  k_dflt cell_enter
  k_steps
  all_goals refine ret_real hret (by assumption) (by assumption) (by kcj_all) (by k_mem) (by k_mem) ?_ ?_
  all_goals first
    | exact (trivial)
    | (first | (have h0 : nu = 0 := (by assumption); rw [h0]; exact (rnd_z _ _).symm) | (have h0 : 0 ≤ p + 2 + sz de - sz nu := (by assumption); have h1 : nu ≠ 0 := (by assumption); exact (rnd_a h1 h0).symm) | (have h0 : ¬ 0 ≤ p + 2 + sz de - sz nu := (by assumption); have h1 : nu ≠ 0 := (by assumption); exact (rnd_b h1 h0).symm))
end Mine
local macro_rules | `(tactic| walk_at "call ref") => `(tactic| (k_here; (with_reducible show wpAny _ _ (call (Value.ref (nat_lit 149)) _) _ _ _); k_dflt (refine' (Mine.c_rounded ?p0 ?p1 ?p2).use ?k1 ?k2 ?k3 ?k4 ?k5 ?kK ?kd ?ku ?_; (case k1 => k_asm); (case k2 => k_asm); (case k3 => k_asm); (case k4 => k_asm); (case k5 => k_asm); (case kK => first | exact rfl | assumption); (case kd => first | exact Mine.room (by assumption) (by decide) | ktr_room); (case ku => first | exact Mine.units (by assumption) (by decide) | ktr_units); (case p0 => first | assumption | omega); (case p1 => first | assumption | omega); (case p2 => first | assumption | omega)); (intro x9 d9 ta9 tb9 tc9 td9 h9 tk9 P9 F9 N9; (try dsimp only at N9); (try dsimp only); (try k_fold))))
namespace Mine
theorem c_ceiling_real {w : World} {mean : ExcName → Option Value} {mg mb : Str → Option Value} {news : Led} {rm re : Int} {rx rd : Addr} {rt1 rt2 rt3 rt4 : Tok} (hrx : (rx, instObj 89 rd) ∈ news) (hrd : (rd, dictOf [{ hash := PyData.keyHash w.params (Str.ofString "mantissa"), key := .str (Str.ofString "mantissa") rt1, val := .int rm rt2 }, { hash := PyData.keyHash w.params (Str.ofString "exponent"), key := .str (Str.ofString "exponent") rt3, val := .int re rt4 }] 2) ∈ news) (h1 : -18446744073709551616 < rm ∧ rm < 18446744073709551616) (h2 : -10000 ≤ re ∧ re ≤ 10000) :
    Claim w mean mg mb 9 226 news [.ref rx] (RReal w news (True) (clP rm re)) := by
  unfold Claim
  k_fill
  intro dp un gd cn cs a ccd cl outer A₀ base h₀ L m s Q E B F X N T hk hdp hun hret
  refine wpAny_call ?_
  k_dflt cell_enter
  k_steps
  all_goals refine ret_real hret (by assumption) (by assumption) (by kcj_all) (by k_mem) (by k_mem) ?_ ?_
  all_goals first
    | exact (trivial)
    | (rfl)
end Mine
local macro_rules | `(tactic| walk_at "call ref") => `(tactic| (k_here; (with_reducible show wpAny _ _ (call (Value.ref (nat_lit 226)) _) _ _ _); k_dflt (refine' (Mine.c_ceiling_real ?p0 ?p1 ?p2 ?p3).use ?k1 ?k2 ?k3 ?k4 ?k5 ?kK ?kd ?ku ?_; (case k1 => k_asm); (case k2 => k_asm); (case k3 => k_asm); (case k4 => k_asm); (case k5 => k_asm); (case kK => first | exact rfl | assumption); (case kd => first | exact Mine.room (by assumption) (by decide) | ktr_room); (case ku => first | exact Mine.units (by assumption) (by decide) | ktr_units); (case p0 => k_mem); (case p1 => k_mem); (case p2 => first | assumption | omega); (case p3 => first | assumption | omega)); (intro x9 d9 ta9 tb9 tc9 td9 h9 tk9 P9 F9 N9; (try dsimp only at N9); (try dsimp only); (try k_fold))))
local macro_rules | `(tactic| walk_at "ite") => `(tactic| (k_here; (refine ite_neg (Mine.beq_no (by assumption)) ?_)))
namespace Mine
theorem c_above {w : World} {mean : ExcName → Option Value} {mg mb : Str → Option Value} {news : Led} {p : Int} {tp : Tok} {rm re : Int} {rx rd : Addr} {rt1 rt2 rt3 rt4 : Tok} (hrx : (rx, instObj 89 rd) ∈ news) (hrd : (rd, dictOf [{ hash := PyData.keyHash w.params (Str.ofString "mantissa"), key := .str (Str.ofString "mantissa") rt1, val := .int rm rt2 }, { hash := PyData.keyHash w.params (Str.ofString "exponent"), key := .str (Str.ofString "exponent") rt3, val := .int re rt4 }] 2) ∈ news) (h1 : -18446744073709551616 < rm ∧ rm < 18446744073709551616) (h2 : -10000 ≤ re ∧ re ≤ 10000) (hp : sz rm ≤ p ∧ p ≤ 20) (hp1 : 1 ≤ p) (hz : rm ≠ 0) :
    Claim w mean mg mb 10 268 news [.int p tp, .ref rx] (RReal w news (True) (abvP p rm re)) := by
  unfold Claim
  k_fill
  intro dp un gd cn cs a ccd cl outer A₀ base h₀ L m s Q E B F X N T hk hdp hun hret
  refine wpAny_call ?_
  k_dflt cell_enter
  k_steps
  all_goals refine ret_real hret (by assumption) (by assumption) (by kcj_all) (by k_mem) (by k_mem) ?_ ?_
  all_goals first
    | exact (trivial)
    | (unfold abvP; (repeat' split) <;> first | rfl | contradiction | (exfalso; omega))
end Mine
local macro_rules | `(tactic| walk_at "call ref") => `(tactic| (k_here; (with_reducible show wpAny _ _ (call (Value.ref (nat_lit 268)) _) _ _ _); k_dflt (refine' (Mine.c_above ?p0 ?p1 ?p2 ?p3 ?p4 ?p5 ?p6).use ?k1 ?k2 ?k3 ?k4 ?k5 ?kK ?kd ?ku ?_; (case k1 => k_asm); (case k2 => k_asm); (case k3 => k_asm); (case k4 => k_asm); (case k5 => k_asm); (case kK => first | exact rfl | assumption); (case kd => first | exact Mine.room (by assumption) (by decide) | ktr_room); (case ku => first | exact Mine.units (by assumption) (by decide) | ktr_units); (case p0 => k_mem); (case p1 => k_mem); (case p2 => first | assumption | omega); (case p3 => first | assumption | omega); (case p4 => first | assumption | omega); (case p5 => first | assumption | omega); (case p6 => first | assumption | omega)); (intro x9 d9 ta9 tb9 tc9 td9 h9 tk9 P9 F9 N9; (try dsimp only at N9); (try dsimp only); (try k_fold))))
namespace Mine
theorem c_truncate_real {w : World} {mean : ExcName → Option Value} {mg mb : Str → Option Value} {news : Led} {rm re : Int} {rx rd : Addr} {rt1 rt2 rt3 rt4 : Tok} (hrx : (rx, instObj 89 rd) ∈ news) (hrd : (rd, dictOf [{ hash := PyData.keyHash w.params (Str.ofString "mantissa"), key := .str (Str.ofString "mantissa") rt1, val := .int rm rt2 }, { hash := PyData.keyHash w.params (Str.ofString "exponent"), key := .str (Str.ofString "exponent") rt3, val := .int re rt4 }] 2) ∈ news) (h1 : -18446744073709551616 < rm ∧ rm < 18446744073709551616) (h2 : -10000 ≤ re ∧ re ≤ 10000) :
    Claim w mean mg mb 11 233 news [.ref rx] (RReal w news (True) (trP rm re)) := by
  unfold Claim
  k_fill
  intro dp un gd cn cs a ccd cl outer A₀ base h₀ L m s Q E B F X N T hk hdp hun hret
  refine wpAny_call ?_
  k_dflt cell_enter
  k_steps
  all_goals refine ret_real hret (by assumption) (by assumption) (by kcj_all) (by k_mem) (by k_mem) ?_ ?_
  all_goals first
    | exact (trivial)
    | (unfold trP; (repeat' split) <;> first | rfl | contradiction | (exfalso; omega))
end Mine
local macro_rules | `(tactic| walk_at "call ref") => `(tactic| (k_here; (with_reducible show wpAny _ _ (call (Value.ref (nat_lit 233)) _) _ _ _); k_dflt (refine' (Mine.c_truncate_real ?p0 ?p1 ?p2 ?p3).use ?k1 ?k2 ?k3 ?k4 ?k5 ?kK ?kd ?ku ?_; (case k1 => k_asm); (case k2 => k_asm); (case k3 => k_asm); (case k4 => k_asm); (case k5 => k_asm); (case kK => first | exact rfl | assumption); (case kd => first | exact Mine.room (by assumption) (by decide) | ktr_room); (case ku => first | exact Mine.units (by assumption) (by decide) | ktr_units); (case p0 => k_mem); (case p1 => k_mem); (case p2 => first | assumption | omega); (case p3 => first | assumption | omega)); (intro x9 d9 ta9 tb9 tc9 td9 h9 tk9 P9 F9 N9; (try dsimp only at N9); (try dsimp only); (try k_fold))))
namespace Mine
theorem c_below {w : World} {mean : ExcName → Option Value} {mg mb : Str → Option Value} {news : Led} {p : Int} {tp : Tok} {rm re : Int} {rx rd : Addr} {rt1 rt2 rt3 rt4 : Tok} (hrx : (rx, instObj 89 rd) ∈ news) (hrd : (rd, dictOf [{ hash := PyData.keyHash w.params (Str.ofString "mantissa"), key := .str (Str.ofString "mantissa") rt1, val := .int rm rt2 }, { hash := PyData.keyHash w.params (Str.ofString "exponent"), key := .str (Str.ofString "exponent") rt3, val := .int re rt4 }] 2) ∈ news) (h1 : -18446744073709551616 < rm ∧ rm < 18446744073709551616) (h2 : -10000 ≤ re ∧ re ≤ 10000) (hp : sz rm ≤ p ∧ p ≤ 20) (hp1 : 1 ≤ p) (hz : rm ≠ 0) :
    Claim w mean mg mb 12 275 news [.int p tp, .ref rx] (RReal w news (True) (belP p rm re)) := by
  unfold Claim
  k_fill
  intro dp un gd cn cs a ccd cl outer A₀ base h₀ L m s Q E B F X N T hk hdp hun hret
  have hn : sz (0 - rm) = sz rm := by rw [Int.zero_sub]; exact sz_neg rm
  refine wpAny_call ?_
  k_dflt cell_enter
  k_steps
  all_goals refine ret_real hret (by assumption) (by assumption) (by kcj_all) (by k_mem) (by k_mem) ?_ ?_
  all_goals first
    | exact (trivial)
    | (rfl)
end Mine
local macro_rules | `(tactic| walk_at "call ref") => `(tactic| (k_here; (with_reducible show wpAny _ _ (call (Value.ref (nat_lit 275)) _) _ _ _); k_dflt (refine' (Mine.c_below ?p0 ?p1 ?p2 ?p3 ?p4 ?p5 ?p6).use ?k1 ?k2 ?k3 ?k4 ?k5 ?kK ?kd ?ku ?_; (case k1 => k_asm); (case k2 => k_asm); (case k3 => k_asm); (case k4 => k_asm); (case k5 => k_asm); (case kK => first | exact rfl | assumption); (case kd => first | exact Mine.room (by assumption) (by decide) | ktr_room); (case ku => first | exact Mine.units (by assumption) (by decide) | ktr_units); (case p0 => k_mem); (case p1 => k_mem); (case p2 => first | assumption | omega); (case p3 => first | assumption | omega); (case p4 => first | assumption | omega); (case p5 => first | assumption | omega); (case p6 => first | assumption | omega)); (intro x9 d9 ta9 tb9 tc9 td9 h9 tk9 P9 F9 N9; (try dsimp only at N9); (try dsimp only); (try k_fold))))
local macro_rules | `(tactic| k_all) => `(tactic| assumption)
namespace Mine
section
variable {prog : Program} {w : World} {A : Around} {E : Value → Shared → Prop} {s : Shared}
theorem ne_cons {a b : Addr} {vs : List Value} {ns : List Int} {k : Int} {t : Tok} {Q : Value → Shared → Prop} (hl : s.heap.IsList a (Value.int k t :: vs).toArray) (hi : IntsAre vs ns) (hl' : s.heap.IsList b #[]) (hu : A.units + 64 < cLine)
    (h : Q (.bool true) s) : wpAny (model prog w) A (compareOp .NotEq (.ref a) (.ref b)) Q E s :=
  ne_intsK hl (IntsAre.cons k t hi) hl' IntsAre.nil hu (by simpa using h)
theorem ne_nil {a b : Addr} {Q : Value → Shared → Prop} (hl : s.heap.IsList a #[]) (hl' : s.heap.IsList b #[]) (hu : A.units + 64 < cLine)
    (h : Q (.bool false) s) : wpAny (model prog w) A (compareOp .NotEq (.ref a) (.ref b)) Q E s :=
  ne_intsK (vs := []) hl IntsAre.nil hl' IntsAre.nil hu (by simpa using h)
theorem pop_first {h₀ : Heap} {L D : Addr} {m : Str → Option Value} {news news' : Led} {n : Nat} {vs : List Value} {x : Value} {u : Tok} {Q : Value → Shared → Prop} (F : Fr h₀ L s.heap m) (N : News h₀ L s.heap news)
    (U : Upd D (listOf (x :: vs).toArray n) (listOf vs.toArray (n + 1)) news news') (hz : (x :: vs).length ≤ 16777216) (h : ∀ h', Fr h₀ L h' m → News h₀ L h' news' → Q x { s with heap := h' }) :
    wpAny (model prog w) A (call (.builtin "list.pop") [.ref D, .int 0 u]) Q E s := by
  refine kl_popAt (its := (x :: vs).toArray) (n := n) (k := 0) (p := []) (q := vs) (y := x) F N rfl ?_ rfl U (by rw [sizeLine_eq]; exact hz) h
  simp [seqIndex?]
end
end Mine
local macro_rules | `(tactic| walk_at "compareOp NotEq ref ref") => `(tactic| (k_here; (with_reducible show wpAny _ _ (compareOp CmpOp.NotEq (Value.ref _) (Value.ref _)) _ _ _); k_dflt (first
  | (refine' Mine.ne_cons ?k1 ?k2 ?k3 ?k5 ?_; (case k1 => exact News.isList (by k_asm) (by k_mem)); (case k2 => assumption); (case k3 => exact News.isList (by k_asm) (by k_mem)); (case k5 => k_units))
  | (refine' Mine.ne_nil ?k1 ?k3 ?k5 ?_; (case k1 => exact News.isList (by k_asm) (by k_mem)); (case k3 => exact News.isList (by k_asm) (by k_mem)); (case k5 => k_units))); k_whole))
local macro_rules | `(tactic| walk_at "call builtin:list.pop") => `(tactic| (k_here; (try dsimp only [List.cons_append, List.nil_append]); (with_reducible show wpAny _ _ (call (Value.builtin _) [Value.ref _, Value.int _ _]) _ _ _); k_dflt (refine' Mine.pop_first ?F ?N ?U ?z ?_; (case F => k_asm); (case N => k_asm); (case U => k_upd); (case z => assumption)); (intro h9 F9 N9; (try dsimp only [List.nil_append, List.cons_append] at N9))))

namespace Mine
abbrev RDraw (wx lx : Addr) (rest : Led) (many : Int) : Ret := fun h₀ L m s Q => ∀ (r y : Int) (t ty : Tok) (n1 n2 : Nat) (vs : List Value) (ns : List Int) (h' : Heap) (tk' : Nat),
  0 ≤ r → r < many → 0 ≤ y ∧ y < 65537 → IntsAre vs ns → vs.length ≤ 63 → Fr h₀ L h' m → News h₀ L h' ((wx, listOf #[.ref lx, .int y ty] n1) :: (lx, listOf vs.toArray n2) :: rest) → Q (.int r t) { s with heap := h', toks := tk' }

theorem fmod_bd (k : Int) {n : Int} (h : 0 < n) : 0 ≤ k.fmod n ∧ k.fmod n < n := by
  rw [Int.fmod_eq_emod_of_nonneg _ (Int.le_of_lt h)]
  exact ⟨Int.emod_nonneg _ (by omega), Int.emod_lt_of_pos _ h⟩
section
variable {w : World} {mean : ExcName → Option Value} {mg mb : Str → Option Value} {rest : Led} {wx lx : Addr} {y many k0 : Int} {ty tm t0 : Tok} {n1 n2 : Nat} {vs : List Value} {ns : List Int}
theorem c_drawn_cons (hv : IntsAre vs ns) (hlen : (Value.int k0 t0 :: vs).length ≤ 16777216) (hlen2 : vs.length ≤ 63) (hy : 0 ≤ y ∧ y < 65537) (hm : 0 < many ∧ many < 1099511627776) (hne : @Ne Nat wx lx) (hr1 : ∀ p ∈ rest, p.1 ≠ wx) (hr2 : ∀ p ∈ rest, p.1 ≠ lx) :
    Claim w mean mg mb 6 282 ((wx, listOf #[.ref lx, .int y ty] n1) :: (lx, listOf (Value.int k0 t0 :: vs).toArray n2) :: rest) [.ref wx, .int many tm] (RDraw wx lx rest many) := by
  unfold Claim
  k_fill
  intro dp un gd cn cs a ccd cl outer A₀ base h₀ L m s Q E B F X N T hk hdp hun hret
  refine wpAny_call ?_
  k_dflt cell_enter
  k_steps
  all_goals refine hret _ y _ ty n1 (n2 + 1) vs ns _ _ (fmod_bd _ hm.1).1 (fmod_bd _ hm.1).2 hy hv hlen2 (by assumption) (led_sub (by assumption) (by kcj_all))
theorem c_drawn_nil (hy : 0 ≤ y ∧ y < 65537) (hm : 0 < many ∧ many < 1099511627776) (hne : @Ne Nat wx lx) (hr1 : ∀ p ∈ rest, p.1 ≠ wx) (hr2 : ∀ p ∈ rest, p.1 ≠ lx) :
    Claim w mean mg mb 6 282 ((wx, listOf #[.ref lx, .int y ty] n1) :: (lx, listOf #[] n2) :: rest) [.ref wx, .int many tm] (RDraw wx lx rest many) := by
  unfold Claim
  k_fill
  intro dp un gd cn cs a ccd cl outer A₀ base h₀ L m s Q E B F X N T hk hdp hun hret
  refine wpAny_call ?_
  k_dflt cell_enter
  k_steps
  all_goals refine hret _ ((y * 75 + 74).fmod 65537) _ _ n1 n2 [] [] _ _ (fmod_bd _ hm.1).1 (fmod_bd _ hm.1).2 (fmod_bd _ (by decide)) IntsAre.nil (by decide) (by assumption) (led_sub (by assumption) (by kcj_all))
theorem c_law_drawn (hv : IntsAre vs ns) (hlen : vs.length ≤ 63) (hy : 0 ≤ y ∧ y < 65537) (hm : 0 < many ∧ many < 1099511627776) (hne : @Ne Nat wx lx) (hr1 : ∀ p ∈ rest, p.1 ≠ wx) (hr2 : ∀ p ∈ rest, p.1 ≠ lx) :
    Claim w mean mg mb 6 282 ((wx, listOf #[.ref lx, .int y ty] n1) :: (lx, listOf vs.toArray n2) :: rest) [.ref wx, .int many tm] (RDraw wx lx rest many) := by
  cases hv with
  | nil => exact c_drawn_nil hy hm hne hr1 hr2
  | cons k t r => exact c_drawn_cons r (by omega) (by rw [List.length_cons] at hlen; omega) hy hm hne hr1 hr2
end
/-- an entry of the ledger, and the others -/
inductive Pick (d : Addr) (o : Obj) : Led → Led → Prop
  | head {r} : (∀ p ∈ r, p.1 ≠ d) → Pick d o ((d, o) :: r) r
  | tail {p r k} : p.1 ≠ d → Pick d o r k → Pick d o (p :: r) (p :: k)
theorem Pick.mem {d : Addr} {o : Obj} : ∀ {l k : Led}, Pick d o l k → (d, o) ∈ l ∧ (∀ p ∈ k, p ∈ l) ∧ ∀ p ∈ k, p.1 ≠ d
  | _, _, .head h => ⟨.head _, fun _ hp => .tail _ hp, h⟩
  | _, _, .tail h r => by
    obtain ⟨a, b, c⟩ := r.mem
    refine ⟨.tail _ a, fun p hp => ?_, fun p hp => ?_⟩
    · rcases List.mem_cons.mp hp with rfl | hp
      · exact .head _
      · exact .tail _ (b p hp)
    · rcases List.mem_cons.mp hp with rfl | hp
      · exact h
      · exact c p hp
section
variable {w : World} {mean : ExcName → Option Value} {mg mb : Str → Option Value} {news k1 keep : Led} {wx lx : Addr} {y many : Int} {ty tm : Tok} {n1 n2 : Nat} {vs : List Value} {ns : List Int}
theorem drawn_use (P1 : Pick wx (listOf #[.ref lx, .int y ty] n1) news k1) (P2 : Pick lx (listOf vs.toArray n2) k1 keep) (hv : IntsAre vs ns) (hlen : vs.length ≤ 63) (hy : 0 ≤ y ∧ y < 65537) (hm : 0 < many ∧ many < 1099511627776)
    {dp un : Nat} {gd : Option (List Code)} {cn : Str} {cs : Scope} {a : Addr} {ccd : Value} {cl : List (Str × Addr)} {outer : List Env} {A₀ : Around} {base h₀ : Heap} {L : Addr} {m : Str → Option Value} {s : Shared} {Q E : Value → Shared → Prop}
    (B : Below A₀ base outer h₀) (F : Fr h₀ L s.heap m) (X : (hd.heap_1 w.params).In h₀) (N : News h₀ L s.heap news) (T : Top view (looseW view [Str.ofString "REACH"]) mean mg mb h₀) (hk : cs.kind = .function)
    (hd : dp + 6 < recursionLimit) (hu : un + 20 * 6 < cLine) (ret : RDraw wx lx keep many h₀ L m s Q) :
    wpAny (model PySem.Challenge.rw_pq1013_01.row.prog w) (ktrTop dp un gd cn cs L a ccd cl outer) (call (.ref 282) [.ref wx, .int many tm]) Q E s := by
  obtain ⟨a1, b1, c1⟩ := P1.mem
  obtain ⟨a2, b2, c2⟩ := P2.mem
  have N2 : News h₀ L s.heap ((wx, listOf #[.ref lx, .int y ty] n1) :: (lx, listOf vs.toArray n2) :: keep) := fun p hp => by
    rcases List.mem_cons.mp hp with rfl | hp
    · exact N _ a1
    rcases List.mem_cons.mp hp with rfl | hp
    · exact N _ (b1 _ a2)
    exact N _ (b1 _ (b2 _ hp))
  have hne : @Ne Nat wx lx := fun e => c1 _ a2 e.symm
  exact (c_law_drawn hv hlen hy hm hne (fun p hp => c1 p (b2 p hp)) c2).use B F X N2 T hk hd hu ret
end
end Mine
namespace Mine
theorem menu_a {r : Int} (h0 : 0 ≤ r) (h1 : r < 3) : 0 < [9, 500, 1000003].getD r.toNat (0 : Int) ∧ [9, 500, 1000003].getD r.toNat (0 : Int) < 1099511627776 := by
  have : r = 0 ∨ r = 1 ∨ r = 2 := by omega
  rcases this with rfl | rfl | rfl <;> decide
theorem menu_b {r : Int} (h0 : 0 ≤ r) (h1 : r < 3) : 0 < [1, 7, 900].getD r.toNat (0 : Int) ∧ [1, 7, 900].getD r.toNat (0 : Int) < 1099511627776 := by
  have : r = 0 ∨ r = 1 ∨ r = 2 := by omega
  rcases this with rfl | rfl | rfl <;> decide
theorem menu_a2 {r : Int} (h0 : 0 ≤ r) (h1 : r < 3) : [9, 500, 1000003].getD r.toNat (0 : Int) ≤ 1000003 := by
  have : r = 0 ∨ r = 1 ∨ r = 2 := by omega
  rcases this with rfl | rfl | rfl <;> decide
theorem menu_b2 {r : Int} (h0 : 0 ≤ r) (h1 : r < 3) : [1, 7, 900].getD r.toNat (0 : Int) ≤ 900 := by
  have : r = 0 ∨ r = 1 ∨ r = 2 := by omega
  rcases this with rfl | rfl | rfl <;> decide
theorem menu_c {r : Int} (h0 : 0 ≤ r) (h1 : r < 4) : 0 < [1, 2, 4, 64].getD r.toNat (0 : Int) ∧ [1, 2, 4, 64].getD r.toNat (0 : Int) < 1024 := by
  have : r = 0 ∨ r = 1 ∨ r = 2 ∨ r = 3 := by omega
  rcases this with rfl | rfl | rfl | rfl <;> decide
theorem half_bd {b : Int} (h : 2 ≤ b ∧ b ≤ 12) : (0 : Int) < 1 * 2 ^ (b - 1).toNat ∧ (1 : Int) * 2 ^ (b - 1).toNat ≤ 2048 := by
  rw [Int.one_mul]
  have h1 := pow_mono (i := (b - 1).toNat) (j := 11) (by omega)
  have e : (2 : Int) ^ 11 = 2048 := by decide
  exact ⟨p2pos _, by omega⟩
abbrev RFrac (wx lx : Addr) (rest : Led) : Ret := fun h₀ L m s Q => ∀ (x : Addr) (tp bt : Int) (t1 t2 : Tok) (n : Nat) (y : Int) (ty : Tok) (n1 n2 : Nat) (vs : List Value) (ns : List Int) (h' : Heap) (tk' : Nat),
  -1048576 < tp ∧ tp < 1048576 → 0 < bt ∧ bt < 1024 → 0 ≤ y ∧ y < 65537 → IntsAre vs ns → vs.length ≤ 63 → @Ne Nat x wx → @Ne Nat x lx → Fr h₀ L h' m →
    News h₀ L h' ((x, { cls := .type "tuple", data := .seq #[.int tp t1, .int bt t2] n }) :: (wx, listOf #[.ref lx, .int y ty] n1) :: (lx, listOf vs.toArray n2) :: rest) → Q (.ref x) { s with heap := h', toks := tk' }
theorem ret_frac {wx lx : Addr} {rest N2 : Led} {h₀ h' : Heap} {L : Addr} {m : Str → Option Value} {s : Shared} {Q : Value → Shared → Prop} {x : Addr} {tp bt : Int} {t1 t2 : Tok} {n : Nat} {y : Int} {ty : Tok} {n1 n2 : Nat} {vs : List Value} {ns : List Int} {tk' : Nat}
    (hret : RFrac wx lx rest h₀ L m s Q) (F : Fr h₀ L h' m) (N : News h₀ L h' N2) (hx : (x, ({ cls := .type "tuple", data := .seq #[.int tp t1, .int bt t2] n } : Obj)) ∈ N2) (hw : (wx, listOf #[.ref lx, .int y ty] n1) ∈ N2) (hl : (lx, listOf vs.toArray n2) ∈ N2) (hs : ∀ p ∈ rest, p ∈ N2)
    (h1 : -1048576 < tp ∧ tp < 1048576) (h2 : 0 < bt ∧ bt < 1024) (hy : 0 ≤ y ∧ y < 65537) (hv : IntsAre vs ns) (hlen : vs.length ≤ 63) : Q (.ref x) { s with heap := h', toks := tk' } := by
  refine hret x tp bt t1 t2 n y ty n1 n2 vs ns h' tk' h1 h2 hy hv hlen (N.ne_of_cls hx hw fun e => absurd (Value.type.inj e) (by decide)) (N.ne_of_cls hx hl fun e => absurd (Value.type.inj e) (by decide)) F fun p hp => ?_
  rcases List.mem_cons.mp hp with rfl | hp
  · exact N _ hx
  rcases List.mem_cons.mp hp with rfl | hp
  · exact N _ hw
  rcases List.mem_cons.mp hp with rfl | hp
  · exact N _ hl
  exact N p (hs p hp)
end Mine
local macro_rules | `(tactic| ktr_rel) => `(tactic| first | (refine' Mine.Pick.head ?a; (case a => k_all)) | (refine' Mine.Pick.tail ?a ?b; (case a => k_ne); (case b => ktr_rel)))
local macro_rules | `(tactic| walk_at "call ref") => `(tactic| (k_here; (with_reducible show wpAny _ _ (call (Value.ref (nat_lit 282)) _) _ _ _); k_dflt (refine' Mine.drawn_use ?p1 ?p2 ?p3 ?p4 ?p5 ?p6 ?k1 ?k2 ?k3 ?k4 ?k5 ?kK ?kd ?ku ?_; (case k1 => k_asm); (case k2 => k_asm); (case k3 => k_asm); (case k4 => k_asm); (case k5 => k_asm); (case kK => first | exact rfl | assumption); (case p1 => ktr_rel); (case p2 => ktr_rel); (case p3 => assumption); (case p4 => assumption); (case p5 => assumption); (case p6 => first | omega | exact Mine.menu_a (by assumption) (by assumption) | exact Mine.menu_b (by assumption) (by assumption)); (case kd => first | exact Mine.room (by assumption) (by decide) | ktr_room); (case ku => first | exact Mine.units (by assumption) (by decide) | ktr_units)); (intro r9 y9 t9 ty9 n19 n29 vs9 ns9 h9 tk9 hr0 hr1 hy9 hv9 hl9 F9 N9; (try dsimp only at N9); (try dsimp only); (try k_fold))))

namespace Mine
theorem c_law_fraction {w : World} {mean : ExcName → Option Value} {mg mb : Str → Option Value} {rest : Led} {wx lx : Addr} {y bits : Int} {ty tb : Tok} {n1 n2 : Nat} {vs : List Value} {ns : List Int}
    (hv : IntsAre vs ns) (hlen : vs.length ≤ 63) (hy : 0 ≤ y ∧ y < 65537) (hb : 2 ≤ bits ∧ bits ≤ 12) (hne : @Ne Nat wx lx) (hr1 : ∀ p ∈ rest, p.1 ≠ wx) (hr2 : ∀ p ∈ rest, p.1 ≠ lx) :
    Claim w mean mg mb 8 289 ((wx, listOf #[.ref lx, .int y ty] n1) :: (lx, listOf vs.toArray n2) :: rest) [.ref wx, .int bits tb] (RFrac wx lx rest) := by
  unfold Claim
  k_fill
  intro dp un gd cn cs a ccd cl outer A₀ base h₀ L m s Q E B F X N T hk hdp hun hret
  have hp2 := half_bd hb
  refine wpAny_call ?_
  k_dflt cell_enter
  k_steps
  all_goals refine ret_frac hret (by assumption) (by assumption) (by k_mem) (by k_mem) (by k_mem) (by kcj_all) ?_ ?_ (by assumption) (by assumption) (by assumption)
  all_goals first
    | omega
    | exact menu_c (by assumption) (by assumption)
    | (have h9 := Int.lt_of_lt_of_le (by assumption : _ < [9, 500, 1000003].getD (Int.toNat _) (0 : Int)) (menu_a2 (by assumption) (by assumption)); omega)
    | (have h9 := Int.lt_of_lt_of_le (by assumption : _ < [1, 7, 900].getD (Int.toNat _) (0 : Int)) (menu_b2 (by assumption) (by assumption)); omega)
end Mine
namespace Mine
section
variable {w : World} {mean : ExcName → Option Value} {mg mb : Str → Option Value} {news k1 keep : Led} {wx lx : Addr} {y bits : Int} {ty tb : Tok} {n1 n2 : Nat} {vs : List Value} {ns : List Int}
theorem frac_use (P1 : Pick wx (listOf #[.ref lx, .int y ty] n1) news k1) (P2 : Pick lx (listOf vs.toArray n2) k1 keep) (hv : IntsAre vs ns) (hlen : vs.length ≤ 63) (hy : 0 ≤ y ∧ y < 65537) (hb : 2 ≤ bits ∧ bits ≤ 12)
    {dp un : Nat} {gd : Option (List Code)} {cn : Str} {cs : Scope} {a : Addr} {ccd : Value} {cl : List (Str × Addr)} {outer : List Env} {A₀ : Around} {base h₀ : Heap} {L : Addr} {m : Str → Option Value} {s : Shared} {Q E : Value → Shared → Prop}
    (B : Below A₀ base outer h₀) (F : Fr h₀ L s.heap m) (X : (hd.heap_1 w.params).In h₀) (N : News h₀ L s.heap news) (T : Top view (looseW view [Str.ofString "REACH"]) mean mg mb h₀) (hk : cs.kind = .function)
    (hd : dp + 8 < recursionLimit) (hu : un + 20 * 8 < cLine) (ret : RFrac wx lx keep h₀ L m s Q) :
    wpAny (model PySem.Challenge.rw_pq1013_01.row.prog w) (ktrTop dp un gd cn cs L a ccd cl outer) (call (.ref 289) [.ref wx, .int bits tb]) Q E s := by
  obtain ⟨a1, b1, c1⟩ := P1.mem
  obtain ⟨a2, b2, c2⟩ := P2.mem
  have N2 : News h₀ L s.heap ((wx, listOf #[.ref lx, .int y ty] n1) :: (lx, listOf vs.toArray n2) :: keep) := fun p hp => by
    rcases List.mem_cons.mp hp with rfl | hp
    · exact N _ a1
    rcases List.mem_cons.mp hp with rfl | hp
    · exact N _ (b1 _ a2)
    exact N _ (b1 _ (b2 _ hp))
  have hne : @Ne Nat wx lx := fun e => c1 _ a2 e.symm
  exact (c_law_fraction hv hlen hy hb hne (fun p hp => c1 p (b2 p hp)) c2).use B F X N2 T hk hd hu ret
end
theorem fr_named {h₀ h : Heap} {L : Addr} {m : Str → Option Value} {x : Str} {v : Value} (hx : m x = some v) (F : Fr h₀ L h m) : Fr h₀ L h (fun z => if z = x then some v else m z) := by
  have e : (fun z => if z = x then some v else m z) = m := funext fun z => by
    by_cases hz : z = x
    · rw [if_pos hz, hz, hx]
    · rw [if_neg hz]
  rw [e]
  exact F
section
variable {M : Model} {A : Around} {E : Value → Shared → Prop} {s : Shared} {env : Env}
theorem cut2 {a b : Stmt} {rest : List Stmt} {Q : Flow → Shared → Prop} (Mid : Shared → Prop)
    (h1 : wpAny M A (exec a env) (fun f s' => match f with | .next => wpAny M A (exec b env) (fun f s' => match f with | .next => Mid s' | f => Q f s') E s' | f => Q f s') E s)
    (h2 : ∀ s', Mid s' → wpAny M A (execs rest env) Q E s') : wpAny M A (execs (a :: b :: rest) env) Q E s := by
  refine wpAny_execs_cons (wpAny_mono h1 (fun f s' h => ?_) fun _ _ e => e)
  cases f with
  | next =>
    refine wpAny_execs_cons (wpAny_mono h (fun f s' h => ?_) fun _ _ e => e)
    cases f with
    | next => exact h2 _ h
    | ret v => exact h
    | brk => exact h
    | cont => exact h
  | ret v => exact h
  | brk => exact h
  | cont => exact h
end
theorem unrPost_mono {h₀ : Heap} {L : Addr} {s₁ : Shared} {I : Addr} {it : Obj} {J K : (Str → Option Value) → Led → Prop} {Q : Flow → Shared → Prop} (hJ : ∀ m n, J m n → K m n) {f : Flow} {s₂ : Shared} (h : UnrPost h₀ L s₁ I it J Q f s₂) : UnrPost h₀ L s₁ I it K Q f s₂ := by
  cases f with
  | ret v => exact h
  | brk => exact h
  | next =>
    obtain ⟨h', tk, m', news', e, F, N, ho, r⟩ := h
    exact ⟨h', tk, m', news', e, F, N, ho, hJ _ _ r⟩
  | cont =>
    obtain ⟨h', tk, m', news', e, F, N, ho, r⟩ := h
    exact ⟨h', tk, m', news', e, F, N, ho, hJ _ _ r⟩
section
variable {prog : Program} {w : World} {A : Around} {E : Value → Shared → Prop} {h₀ : Heap} {env : Env} {x : Str} {body : List Stmt} {Q : Flow → Shared → Prop} {s : Shared} {I : Addr} {aa : Int} {n : Nat}
theorem range_inv (J : (Str → Option Value) → Led → Prop)
    (turn : ∀ (i0 p0 q0 : Int) (t : Tok) (m₁ : Str → Option Value) (news₁ : Led) (h : Heap) (tk : Nat), J m₁ news₁ → Fr h₀ env.locals h (fun y => if y = x then some (.int i0 t) else m₁ y) → News h₀ env.locals h ((I, itR p0 q0) :: news₁) →
      wpAny (model prog w) A (execs body env) (UnrPost h₀ env.locals { s with heap := h, toks := tk } I (itR p0 q0) J Q) E { s with heap := h, toks := tk })
    (done : ∀ (m₁ : Str → Option Value) (news₁ : Led) (h : Heap) (tk : Nat), J m₁ news₁ → Fr h₀ env.locals h m₁ → News h₀ env.locals h news₁ → Q .next { s with heap := h, toks := tk }) :
    ∀ (k i : Nat) (m : Str → Option Value) (news : Led), J m news → RangeRest prog w A E h₀ env x body Q s I aa n k i m news
  | 0, _, m, news, hJ => fun h tk F N => done m news h tk hJ F N
  | k + 1, i, m, news, hJ => fun t h tk F N => wpAny_mono (turn _ _ _ t m news h tk hJ F N) (fun f s₂ p => unrPost_mono (fun m' n' hj => range_inv J turn done k (i + 1) m' n' hj) p) fun _ _ e => e
end
/-- what stands between the laps -/
def LapInv (m : Str → Option Value) (n : Led) : Prop :=
  ∃ (bits : Int) (tb : Tok) (wx lx : Addr) (y : Int) (ty : Tok) (n1 n2 : Nat) (vs : List Value) (ns : List Int),
    (m (Str.ofString "well") = some (.ref wx) ∧ m (Str.ofString "bits") = some (.int bits tb)) ∧ ((wx, listOf #[.ref lx, .int y ty] n1) ∈ n ∧ (lx, listOf vs.toArray n2) ∈ n) ∧ (2 ≤ bits ∧ bits ≤ 12) ∧ IntsAre vs ns ∧ vs.length ≤ 63 ∧ (0 ≤ y ∧ y < 65537) ∧ @Ne Nat wx lx
/-- what stands behind the draws of a lap -/
def MidInv (h₀ : Heap) (L I : Addr) (p0 q0 : Int) (s s' : Shared) : Prop :=
  ∃ (bits : Int) (tb : Tok) (x1 x2 wx lx : Addr) (t1 b1 t2 b2 y b : Int) (u1 u2 u3 u4 ty tby : Tok) (k1 k2 n1 n2 : Nat) (vs : List Value) (ns : List Int) (m : Str → Option Value) (h : Heap) (tk : Nat),
    (m (Str.ofString "one") = some (.ref x1) ∧ m (Str.ofString "other") = some (.ref x2) ∧ m (Str.ofString "by") = some (.int b tby) ∧ m (Str.ofString "well") = some (.ref wx) ∧ m (Str.ofString "bits") = some (.int bits tb)) ∧
    ((-1048576 < t1 ∧ t1 < 1048576) ∧ (0 < b1 ∧ b1 < 1024) ∧ (-1048576 < t2 ∧ t2 < 1048576) ∧ (0 < b2 ∧ b2 < 1024) ∧ (0 ≤ b ∧ b < 9)) ∧
    (2 ≤ bits ∧ bits ≤ 12) ∧ IntsAre vs ns ∧ vs.length ≤ 63 ∧ (0 ≤ y ∧ y < 65537) ∧ @Ne Nat wx lx ∧ s' = { s with heap := h, toks := tk } ∧ Fr h₀ L h m ∧
    News h₀ L h [(x1, { cls := .type "tuple", data := .seq #[.int t1 u1, .int b1 u2] k1 }), (x2, { cls := .type "tuple", data := .seq #[.int t2 u3, .int b2 u4] k2 }), (wx, listOf #[.ref lx, .int y ty] n1), (lx, listOf vs.toArray n2), (I, itR p0 q0)]
section
variable {prog : Program} {w : World} {A : Around} {E : Value → Shared → Prop} {h₀ : Heap} {env : Env} {a b : Stmt} {rest : List Stmt} {Q : Flow → Shared → Prop} {s : Shared} {I : Addr} {aa : Int} {n k i : Nat} {m : Str → Option Value} {news : Led}
theorem lap_loop {L : Addr} {hh0 : Heap} {mm0 : Str → Option Value} (F0 : Fr h₀ L hh0 mm0) (hL : env.locals = L) (hJ : LapInv m news)
    (part1 : ∀ (Q : Flow → Shared → Prop) (E : Value → Shared → Prop) (bits : Int) (tb : Tok) (wx lx : Addr) (y : Int) (ty : Tok) (n1 n2 : Nat) (vs : List Value) (ns : List Int) (i0 p0 q0 : Int) (t : Tok) (m₁ : Str → Option Value) (h : Heap) (tk : Nat),
      2 ≤ bits ∧ bits ≤ 12 → IntsAre vs ns → vs.length ≤ 63 → 0 ≤ y ∧ y < 65537 → @Ne Nat wx lx → @Ne Nat I wx → @Ne Nat I lx →
      Fr h₀ L h (fun z => if z = Str.ofString "well" then some (.ref wx) else if z = Str.ofString "bits" then some (.int bits tb) else m₁ z) →
      News h₀ L h [(I, itR p0 q0), (wx, listOf #[.ref lx, .int y ty] n1), (lx, listOf vs.toArray n2)] →
      wpAny (model prog w) A (exec a env) (fun f s' => match f with | .next => wpAny (model prog w) A (exec b env) (fun f s' => match f with | .next => MidInv h₀ L I p0 q0 { s with heap := h, toks := tk } s' | f => UnrPost h₀ L { s with heap := h, toks := tk } I (itR p0 q0) LapInv Q f s') E s' | f => UnrPost h₀ L { s with heap := h, toks := tk } I (itR p0 q0) LapInv Q f s') E { s with heap := h, toks := tk })
    (part2 : ∀ (Q : Flow → Shared → Prop) (E : Value → Shared → Prop) (bits : Int) (tb : Tok) (x1 x2 wx lx : Addr) (t1 b1 t2 b2 y b : Int) (u1 u2 u3 u4 ty tby : Tok) (k1 k2 n1 n2 : Nat) (vs : List Value) (ns : List Int) (p0 q0 : Int) (m₁ : Str → Option Value) (h hh : Heap) (tk tkk : Nat),
      -1048576 < t1 ∧ t1 < 1048576 → 0 < b1 ∧ b1 < 1024 → -1048576 < t2 ∧ t2 < 1048576 → 0 < b2 ∧ b2 < 1024 → 0 ≤ b ∧ b < 9 →
      2 ≤ bits ∧ bits ≤ 12 → IntsAre vs ns → vs.length ≤ 63 → 0 ≤ y ∧ y < 65537 → @Ne Nat wx lx → @Ne Nat I wx → @Ne Nat I lx →
      Fr h₀ L h (fun z => if z = Str.ofString "one" then some (.ref x1) else if z = Str.ofString "other" then some (.ref x2) else if z = Str.ofString "by" then some (.int b tby) else if z = Str.ofString "well" then some (.ref wx) else if z = Str.ofString "bits" then some (.int bits tb) else m₁ z) →
      News h₀ L h [(x1, { cls := .type "tuple", data := .seq #[.int t1 u1, .int b1 u2] k1 }), (x2, { cls := .type "tuple", data := .seq #[.int t2 u3, .int b2 u4] k2 }), (wx, listOf #[.ref lx, .int y ty] n1), (lx, listOf vs.toArray n2), (I, itR p0 q0)] →
      wpAny (model prog w) A (execs rest env) (UnrPost h₀ L { s with heap := hh, toks := tkk } I (itR p0 q0) LapInv Q) E { s with heap := h, toks := tk })
    (done : ∀ (m₁ : Str → Option Value) (h : Heap) (tk : Nat), Fr h₀ L h m₁ → News h₀ L h [] → Q .next { s with heap := h, toks := tk }) :
    RangeRest prog w A E h₀ env (Str.ofString "lap") (a :: b :: rest) Q s I aa n k i m news := by
  subst hL
  refine range_inv LapInv (fun i0 p0 q0 t m₁ news₁ h tk hJ F N => ?_) (fun m₁ news₁ h tk hJ F N => done m₁ h tk F fun _ hp => nomatch hp) k i m news hJ
  obtain ⟨bits, tb, wx, lx, y, ty, n1, n2, vs, ns, ⟨e1, e2⟩, ⟨g1, g2⟩, hb, hv, hl, hy, hne⟩ := hJ
  have c1 : @Ne Nat I wx := N.ne_of_cls (q := (I, itR p0 q0)) (p := (wx, listOf #[.ref lx, .int y ty] n1)) (.head _) (.tail _ g1) fun e => absurd (Value.type.inj e) (by decide)
  have c2 : @Ne Nat I lx := N.ne_of_cls (q := (I, itR p0 q0)) (p := (lx, listOf vs.toArray n2)) (.head _) (.tail _ g2) fun e => absurd (Value.type.inj e) (by decide)
  refine cut2 (MidInv h₀ env.locals I p0 q0 { s with heap := h, toks := tk }) ?_ fun s' hm => ?_
  · refine part1 Q E bits tb wx lx y ty n1 n2 vs ns i0 p0 q0 t (fun z => if z = Str.ofString "lap" then some (.int i0 t) else m₁ z) h tk hb hv hl hy hne c1 c2 ?_ fun p hp => ?_
    · refine fr_named (m := fun z => if z = Str.ofString "bits" then some (.int bits tb) else (if z = Str.ofString "lap" then some (.int i0 t) else m₁ z)) ?_ (fr_named ?_ F)
      · show (if Str.ofString "well" = Str.ofString "bits" then some (Value.int bits tb) else if Str.ofString "well" = Str.ofString "lap" then some (.int i0 t) else m₁ (Str.ofString "well")) = _
        rw [if_neg (by decide), if_neg (by decide), e1]
      · show (if Str.ofString "bits" = Str.ofString "lap" then some (Value.int i0 t) else m₁ (Str.ofString "bits")) = _
        rw [if_neg (by decide), e2]
    · rcases List.mem_cons.mp hp with rfl | hp
      · exact N _ (.head _)
      rcases List.mem_cons.mp hp with rfl | hp
      · exact N _ (.tail _ g1)
      rcases List.mem_cons.mp hp with rfl | hp
      · exact N _ (.tail _ g2)
      nomatch hp
  · obtain ⟨bits, tb, x1, x2, wx, lx, t1, b1, t2, b2, y, b, u1, u2, u3, u4, ty, tby, k1, k2, n1, n2, vs, ns, m', h', tk', ⟨a1, a2, a3, a4, a5⟩, ⟨d1, d2, d3, d4, d5⟩, hb, hv, hl, hy, hne, rfl, F', N'⟩ := hm
    have c1 : @Ne Nat I wx := N'.ne_of_cls (q := (I, itR p0 q0)) (p := (wx, listOf #[.ref lx, .int y ty] n1)) (by simp) (by simp) fun e => absurd (Value.type.inj e) (by decide)
    have c2 : @Ne Nat I lx := N'.ne_of_cls (q := (I, itR p0 q0)) (p := (lx, listOf vs.toArray n2)) (by simp) (by simp) fun e => absurd (Value.type.inj e) (by decide)
    refine part2 Q E bits tb x1 x2 wx lx t1 b1 t2 b2 y b u1 u2 u3 u4 ty tby k1 k2 n1 n2 vs ns p0 q0 m' h' h tk' tk d1 d2 d3 d4 d5 hb hv hl hy hne c1 c2 ?_ N'
    refine fr_named (m := fun z => if z = Str.ofString "other" then some (.ref x2) else if z = Str.ofString "by" then some (.int b tby) else if z = Str.ofString "well" then some (.ref wx) else if z = Str.ofString "bits" then some (.int bits tb) else m' z) ?_ ?_
    · show (if Str.ofString "one" = Str.ofString "other" then some (Value.ref x2) else if Str.ofString "one" = Str.ofString "by" then some (.int b tby) else if Str.ofString "one" = Str.ofString "well" then some (.ref wx) else if Str.ofString "one" = Str.ofString "bits" then some (.int bits tb) else m' (Str.ofString "one")) = _
      rw [if_neg (by decide), if_neg (by decide), if_neg (by decide), if_neg (by decide), a1]
    refine fr_named (m := fun z => if z = Str.ofString "by" then some (.int b tby) else if z = Str.ofString "well" then some (.ref wx) else if z = Str.ofString "bits" then some (.int bits tb) else m' z) ?_ ?_
    · show (if Str.ofString "other" = Str.ofString "by" then some (Value.int b tby) else if Str.ofString "other" = Str.ofString "well" then some (.ref wx) else if Str.ofString "other" = Str.ofString "bits" then some (.int bits tb) else m' (Str.ofString "other")) = _
      rw [if_neg (by decide), if_neg (by decide), if_neg (by decide), a2]
    refine fr_named (m := fun z => if z = Str.ofString "well" then some (.ref wx) else if z = Str.ofString "bits" then some (.int bits tb) else m' z) ?_ ?_
    · show (if Str.ofString "by" = Str.ofString "well" then some (Value.ref wx) else if Str.ofString "by" = Str.ofString "bits" then some (.int bits tb) else m' (Str.ofString "by")) = _
      rw [if_neg (by decide), if_neg (by decide), a3]
    refine fr_named (m := fun z => if z = Str.ofString "bits" then some (.int bits tb) else m' z) ?_ (fr_named a5 F')
    · show (if Str.ofString "well" = Str.ofString "bits" then some (Value.int bits tb) else m' (Str.ofString "well")) = _
      rw [if_neg (by decide), a4]
end
/-- the end of the draws -/
theorem mid_intro {h₀ : Heap} {L I : Addr} {p0 q0 : Int} {s : Shared} {m : Str → Option Value} {h : Heap} {tk : Nat} {all : Led} {bits : Int} {tb : Tok} {x1 x2 wx lx : Addr} {t1 b1 t2 b2 y b : Int} {u1 u2 u3 u4 ty tby : Tok} {k1 k2 n1 n2 : Nat} {vs : List Value} {ns : List Int}
    (F : Fr h₀ L h m) (N : News h₀ L h all) (a1 : m (Str.ofString "one") = some (.ref x1)) (a2 : m (Str.ofString "other") = some (.ref x2)) (a3 : m (Str.ofString "by") = some (.int b tby)) (a4 : m (Str.ofString "well") = some (.ref wx)) (a5 : m (Str.ofString "bits") = some (.int bits tb))
    (g1 : (x1, ({ cls := .type "tuple", data := .seq #[.int t1 u1, .int b1 u2] k1 } : Obj)) ∈ all) (g2 : (x2, ({ cls := .type "tuple", data := .seq #[.int t2 u3, .int b2 u4] k2 } : Obj)) ∈ all) (g3 : (wx, listOf #[.ref lx, .int y ty] n1) ∈ all) (g4 : (lx, listOf vs.toArray n2) ∈ all) (g5 : (I, itR p0 q0) ∈ all)
    (d1 : -1048576 < t1 ∧ t1 < 1048576) (d2 : 0 < b1 ∧ b1 < 1024) (d3 : -1048576 < t2 ∧ t2 < 1048576) (d4 : 0 < b2 ∧ b2 < 1024) (d5 : 0 ≤ b ∧ b < 9) (hb : 2 ≤ bits ∧ bits ≤ 12) (hv : IntsAre vs ns) (hl : vs.length ≤ 63) (hy : 0 ≤ y ∧ y < 65537) (hne : @Ne Nat wx lx) :
    MidInv h₀ L I p0 q0 s { s with heap := h, toks := tk } := by
  refine ⟨bits, tb, x1, x2, wx, lx, t1, b1, t2, b2, y, b, u1, u2, u3, u4, ty, tby, k1, k2, n1, n2, vs, ns, m, h, tk, ⟨a1, a2, a3, a4, a5⟩, ⟨d1, d2, d3, d4, d5⟩, hb, hv, hl, hy, hne, rfl, F, fun p hp => ?_⟩
  simp only [List.mem_cons, List.not_mem_nil, or_false] at hp
  rcases hp with rfl | rfl | rfl | rfl | rfl
  · exact N _ g1
  · exact N _ g2
  · exact N _ g3
  · exact N _ g4
  · exact N _ g5
/-- the end of a lap -/
theorem lap_end {h₀ : Heap} {L I : Addr} {p0 q0 : Int} {s : Shared} {m : Str → Option Value} {h : Heap} {tk : Nat} {all : Led} {bits : Int} {tb : Tok} {wx lx : Addr} {y : Int} {ty : Tok} {n1 n2 : Nat} {vs : List Value} {ns : List Int}
    (F : Fr h₀ L h m) (N : News h₀ L h all) (a4 : m (Str.ofString "well") = some (.ref wx)) (a5 : m (Str.ofString "bits") = some (.int bits tb)) (g3 : (wx, listOf #[.ref lx, .int y ty] n1) ∈ all) (g4 : (lx, listOf vs.toArray n2) ∈ all) (g5 : (I, itR p0 q0) ∈ all)
    (hb : 2 ≤ bits ∧ bits ≤ 12) (hv : IntsAre vs ns) (hl : vs.length ≤ 63) (hy : 0 ≤ y ∧ y < 65537) (hne : @Ne Nat wx lx) (c1 : @Ne Nat I wx) (c2 : @Ne Nat I lx) :
    UnrEnd h₀ L s I (itR p0 q0) LapInv { s with heap := h, toks := tk } := by
  refine UnrEnd.intro F N [(wx, listOf #[.ref lx, .int y ty] n1), (lx, listOf vs.toArray n2)] (fun p hp => ?_) (fun p hp => ?_) ⟨bits, tb, wx, lx, y, ty, n1, n2, vs, ns, ⟨a4, a5⟩, ⟨by simp, by simp⟩, hb, hv, hl, hy, hne⟩
  · simp only [List.mem_cons, List.not_mem_nil, or_false] at hp
    rcases hp with rfl | rfl | rfl
    · exact g5
    · exact g3
    · exact g4
  · simp only [List.mem_cons, List.not_mem_nil, or_false] at hp
    rcases hp with rfl | rfl
    · exact fun e => c1 e.symm
    · exact fun e => c2 e.symm
end Mine
namespace Mine
theorem beq_yes {a b : Int} (h : a = b) : (a == b) = true := by simpa using h
theorem dec_no {P : Prop} [Decidable P] (h : ¬ P) : ¬ (decide P = true) := by simpa using h
theorem dec_yes {P : Prop} [Decidable P] (h : P) : decide P = true := by simpa using h
theorem bool_no {b : Bool} (h : b = false) : ¬ (b = true) := by simp [h]
end Mine
local macro_rules | `(tactic| walk_at "ite") => `(tactic| (k_here; first | (refine ite_neg (Mine.beq_no (by assumption)) ?_) | (refine ite_neg (Mine.dec_no (by assumption)) ?_) | (refine ite_neg (Mine.bool_no (by assumption)) ?_) | (refine ite_pos (Mine.dec_yes (by assumption)) ?_)))
namespace Mine
theorem c_near_nz {w : World} {mean : ExcName → Option Value} {mg mb : Str → Option Value} {led : Led} {p q0 q1 : Int} {qx : Addr} {tp qt1 qt2 : Tok} {qn : Nat} (hqx : (qx, ({ cls := .type "tuple", data := .seq #[.int q0 qt1, .int q1 qt2] qn } : Obj)) ∈ led)
    (hp : 2 ≤ p ∧ p ≤ 12) (h1 : -1048576 < q0 ∧ q0 < 1048576) (h2 : 0 < q1 ∧ q1 < 1024) (h0 : q0 ≠ 0) :
    Claim w mean mg mb 16 310 led [.int p tp, .ref qx] (RBool led True true) := by
  unfold Claim
  k_fill
  intro dp un gd cn cs a ccd cl outer A₀ base h₀ L m s Q E B F X N T hk hdp hun hret
  have hi : ∀ p ∈ [(qx, ({ cls := .type "tuple", data := .seq #[.int q0 qt1, .int q1 qt2] qn } : Obj))], p ∈ led := by
    intro p hp
    simp only [List.mem_cons, List.not_mem_nil, or_false] at hp
    rcases hp with rfl <;> assumption
  have N1 := N.perm hi
  obtain ⟨f1, f2, f3, f4, f5, f6, f7, f8, f9, f10, f11, f12, f13, f14, f15, f16, f17, f18, f19, f20⟩ := near_facts hp h1 h2 h0
  have g0 : 2 ≤ p ∧ p ≤ 20 := ⟨hp.1, Int.le_trans hp.2 (by decide)⟩
  have g1 : 2 ≤ p + 3 ∧ p + 3 ≤ 20 := by clear f2 f3 f4 f5 f6 f7 f8 f9 f10 f11 f12 f13 f14 f19 f20; omega
  have wide : ∀ x : Int, -65536 < x ∧ x < 65536 → -18446744073709551616 < x ∧ x < 18446744073709551616 := fun x h => by clear f2 f3 f4 f5 f6 f7 f8 f9 f10 f11 f12 f13 f14 f19 f20; omega
  have wid2 : ∀ x : Int, -16384 < x ∧ x < 16384 → -18446744073709551616 < x ∧ x < 18446744073709551616 := fun x h => by clear f2 f3 f4 f5 f6 f7 f8 f9 f10 f11 f12 f13 f14 f19 f20; omega
  have expo : ∀ x : Int, -60 ≤ x ∧ x ≤ 60 → -10000 ≤ x ∧ x ≤ 10000 := fun x h => by clear f2 f3 f4 f5 f6 f7 f8 f9 f10 f11 f12 f13 f14 f19 f20; omega
  have g2 : -1099511627776 < q0 ∧ q0 < 1099511627776 := ⟨Int.lt_trans (by decide) h1.1, Int.lt_trans h1.2 (by decide)⟩
  have g3 : 0 < q1 ∧ q1 < 1099511627776 := ⟨h2.1, Int.lt_trans h2.2 (by decide)⟩
  have g4 := wid2 _ ⟨Int.lt_trans (by decide) f4.1, Int.lt_trans f4.2 (by decide)⟩
  have g5 := expo _ ⟨Int.le_trans (by decide) f5.1, Int.le_trans f5.2 (by decide)⟩
  have g6 : -18446744073709551616 < q0 ∧ q0 < 18446744073709551616 := ⟨Int.lt_trans (by decide) h1.1, Int.lt_trans h1.2 (by decide)⟩
  have g7 : -18446744073709551616 < q1 ∧ q1 < 18446744073709551616 := ⟨Int.lt_trans (by decide) h2.1, Int.lt_trans h2.2 (by decide)⟩
  have g8 : sz (rndP p q0 q1).1 ≤ p ∧ p ≤ 20 := ⟨f2, g0.2⟩
  have g9 : 1 ≤ p := Int.le_trans (by decide) hp.1
  have ga := wid2 _ f6
  have gb := expo _ f7
  have gc := wid2 _ f8
  have gd := expo _ f9
  have ge := wide _ f13
  have gf := expo _ f14
  clear wide wid2 expo
  have f2' : ¬ p < sz (rndP p q0 q1).1 := Int.not_lt.mpr f2
  have f3' : (rndP p q0 q1).1.fmod 2 ≠ 0 := by rw [f3]; decide
  refine wpAny_call ?_
  k_dflt (refine' code_defG ?k1 ?k2 ?k3 ?k4 ?k5 ?kA ?kF ?kK ?k6 ?k7 ?k8 ?k9 ?kB ?_ ?c2 ?c3 ?c4 ?c5; (case kA => exact rfl); (case kF => exact rfl); (case kK => assumption); (case k1 => k_asm); (case k2 => k_asm); (case k3 => k_asm); (case k4 => exact N1); (case k5 => k_asm); (case k6 => k_is); (case k7 => k_is); (case k8 => ktr_room); (case k9 => exact BindsTo.of_eq rfl); (case c5 => decide); (case kB => exact locs rfl); (case c2 => exact rfl); (case c3 => exact rfl); (case c4 => exact rfl); k_whole)
  intro g' L' h' FG' F' N' B' X' T' GS'
  try dsimp only
  try k_lift B'
  try k_fold
  clear N1
  k_steps
  all_goals first
    | exact ret_boolF hret N hi GS' (by assumption) (by assumption) (by assumption) (by kcj_all) trivial (dec_yes f20)
    | exact Bool.noConfusion ((f17 (by assumption)).symm.trans (by assumption))
    | exact Bool.noConfusion ((f18 (by assumption)).symm.trans (by assumption))
theorem c_near_z {w : World} {mean : ExcName → Option Value} {mg mb : Str → Option Value} {led : Led} {p q1 : Int} {qx : Addr} {tp qt1 qt2 : Tok} {qn : Nat} (hqx : (qx, ({ cls := .type "tuple", data := .seq #[.int 0 qt1, .int q1 qt2] qn } : Obj)) ∈ led)
    (hp : 2 ≤ p ∧ p ≤ 12) (h2 : 0 < q1 ∧ q1 < 1024) :
    Claim w mean mg mb 16 310 led [.int p tp, .ref qx] (RBool led True true) := by
  unfold Claim
  k_fill
  intro dp un gd cn cs a ccd cl outer A₀ base h₀ L m s Q E B F X N T hk hdp hun hret
  have hi : ∀ p ∈ [(qx, ({ cls := .type "tuple", data := .seq #[.int 0 qt1, .int q1 qt2] qn } : Obj))], p ∈ led := by
    intro p hp
    simp only [List.mem_cons, List.not_mem_nil, or_false] at hp
    rcases hp with rfl <;> assumption
  have N1 := N.perm hi
  have f1 : (rndP p 0 q1).1 = 0 ∧ (rndP p 0 q1).2 = 0 := by rw [rnd_z]; exact ⟨rfl, rfl⟩
  refine wpAny_call ?_
  k_dflt (refine' code_defG ?k1 ?k2 ?k3 ?k4 ?k5 ?kA ?kF ?kK ?k6 ?k7 ?k8 ?k9 ?kB ?_ ?c2 ?c3 ?c4 ?c5; (case kA => exact rfl); (case kF => exact rfl); (case kK => assumption); (case k1 => k_asm); (case k2 => k_asm); (case k3 => k_asm); (case k4 => exact N1); (case k5 => k_asm); (case k6 => k_is); (case k7 => k_is); (case k8 => ktr_room); (case k9 => exact BindsTo.of_eq rfl); (case c5 => decide); (case kB => exact locs rfl); (case c2 => exact rfl); (case c3 => exact rfl); (case c4 => exact rfl); k_whole)
  intro g' L' h' FG' F' N' B' X' T' GS'
  try dsimp only
  try k_lift B'
  try k_fold
  clear N1
  k_steps
  all_goals exact ret_boolF hret N hi GS' (by assumption) (by assumption) (by assumption) (by kcj_all) trivial (dec_yes f1)
theorem c_law_is_nearest {w : World} {mean : ExcName → Option Value} {mg mb : Str → Option Value} {led : Led} {p q0 q1 : Int} {qx : Addr} {tp qt1 qt2 : Tok} {qn : Nat} (hqx : (qx, ({ cls := .type "tuple", data := .seq #[.int q0 qt1, .int q1 qt2] qn } : Obj)) ∈ led)
    (hp : 2 ≤ p ∧ p ≤ 12) (h1 : -1048576 < q0 ∧ q0 < 1048576) (h2 : 0 < q1 ∧ q1 < 1024) :
    Claim w mean mg mb 16 310 led [.int p tp, .ref qx] (RBool led True true) := by
  by_cases h0 : q0 = 0
  · subst h0
    exact c_near_z hqx hp h2
  · exact c_near_nz hqx hp h1 h2 h0
end Mine
local macro_rules | `(tactic| walk_at "call ref") => `(tactic| (k_here; (with_reducible show wpAny _ _ (call (Value.ref (nat_lit 310)) _) _ _ _); k_dflt (refine' (Mine.c_law_is_nearest ?p0 ?p1 ?p2 ?p3).use ?k1 ?k2 ?k3 ?k4 ?k5 ?kK ?kd ?ku ?_; (case k1 => k_asm); (case k2 => k_asm); (case k3 => k_asm); (case k4 => k_asm); (case k5 => k_asm); (case kK => first | exact rfl | assumption); (case kd => first | exact Mine.room (by assumption) (by decide) | ktr_room); (case ku => first | exact Mine.units (by assumption) (by decide) | ktr_units); (case p0 => k_mem); (case p1 => first | assumption | omega); (case p2 => first | assumption | omega); (case p3 => first | assumption | omega)); (intro h9 tk9 P9 F9 N9; (try dsimp only at N9); (try dsimp only); (try k_fold))))
namespace Mine
/-- the entries of a ledger that are shown to lie elsewhere -/
inductive Cut (d : Addr) : Led → Led → Prop
  | nil : Cut d [] []
  | keep {p r k} : p.1 ≠ d → Cut d r k → Cut d (p :: r) (p :: k)
  | drop {p r k} : Cut d r k → Cut d (p :: r) k
theorem Cut.mem {d : Addr} : ∀ {l k : Led}, Cut d l k → (∀ p ∈ k, p ∈ l) ∧ ∀ p ∈ k, p.1 ≠ d
  | _, _, .nil => ⟨fun _ hp => hp, fun _ hp => nomatch hp⟩
  | _, _, .keep h r => by
    obtain ⟨b, c⟩ := r.mem
    refine ⟨fun p hp => ?_, fun p hp => ?_⟩
    · rcases List.mem_cons.mp hp with rfl | hp
      · exact .head _
      · exact .tail _ (b p hp)
    · rcases List.mem_cons.mp hp with rfl | hp
      · exact h
      · exact c p hp
  | _, _, .drop r => by
    obtain ⟨b, c⟩ := r.mem
    exact ⟨fun p hp => .tail _ (b p hp), c⟩
theorem dec_yes4 {a b c d a' b' c' d' : Int} (h1 : a = a') (h2 : b = b') (h3 : c = c') (h4 : d = d') : decide ([a, b, c, d] = [a', b', c', d']) = true := by rw [h1, h2, h3, h4]; exact decide_eq_true rfl
theorem append_cut {prog : Program} {w : World} {A : Around} {E : Value → Shared → Prop} {s : Shared} {h₀ : Heap} {L D : Addr} {m : Str → Option Value} {news keep : Led} {vs : List Value} {n : Nat} {x : Value} {Q : Value → Shared → Prop}
    (F : Fr h₀ L s.heap m) (N : News h₀ L s.heap news) (hm : (D, listOf vs.toArray n) ∈ news) (C : Cut D news keep) (hsz : vs.length ≤ 16777216)
    (h : ∀ h', Fr h₀ L h' m → News h₀ L h' ((D, listOf (vs ++ [x]).toArray (n + 1)) :: keep) → Q .none { s with heap := h' }) : wpAny (model prog w) A (call (.builtin "list.append") [.ref D, x]) Q E s := by
  obtain ⟨b, c⟩ := C.mem
  have N2 : News h₀ L s.heap ((D, listOf vs.toArray n) :: keep) := fun p hp => by
    rcases List.mem_cons.mp hp with rfl | hp
    · exact N _ hm
    · exact N _ (b p hp)
  refine append_K F N2 (.head c) (fun h' F' N' => h h' F' (by simpa using N')) ?_
  rw [sizeLine_eq]
  simpa using hsz
end Mine
local macro_rules | `(tactic| ktr_rel) => `(tactic| first | exact Mine.Cut.nil | (refine' Mine.Cut.keep ?a ?b; (case a => k_ne); (case b => ktr_rel)) | (refine' Mine.Cut.drop ?b; (case b => ktr_rel)))
local macro_rules | `(tactic| walk_at "call builtin:list.append") => `(tactic| (k_here; (try dsimp only [List.cons_append, List.nil_append]); (with_reducible show wpAny _ _ (call (Value.builtin _) [Value.ref _, _]) _ _ _); k_dflt (refine' Mine.append_cut ?k1 ?k2 ?k3 ?k4 ?k5 ?_; (case k1 => k_asm); (case k2 => k_asm); (case k3 => k_mem); (case k4 => ktr_rel); (case k5 => (simp only [List.length_cons, List.length_nil]; omega))); (intro h9 F9 N9; (try dsimp only [List.cons_append, List.nil_append] at N9); (try dsimp only); (try k_fold))))
local macro_rules | `(tactic| walk_at "binaryOp FloorDiv int int") => `(tactic| (k_here; (with_reducible refine' floordiv_int ?kbe ?_ (Or.inl (PyProof.noPylong_of_log2 ?kbp))); (case kbe => assumption); (case kbp => exact Mine.log2_lt (by assumption))))
namespace Mine
theorem c_law_are_wholes_right {w : World} {mean : ExcName → Option Value} {mg mb : Str → Option Value} {led : Led} {rm re : Int} {rx rd : Addr} {rt1 rt2 rt3 rt4 : Tok} (hrx : (rx, instObj 89 rd) ∈ led) (hrd : (rd, dictOf [{ hash := PyData.keyHash w.params (Str.ofString "mantissa"), key := .str (Str.ofString "mantissa") rt1, val := .int rm rt2 }, { hash := PyData.keyHash w.params (Str.ofString "exponent"), key := .str (Str.ofString "exponent") rt3, val := .int re rt4 }] 2) ∈ led)
    (hm : -8192 < rm ∧ rm < 8192) (he : -40 ≤ re ∧ re ≤ 60) :
    Claim w mean mg mb 14 317 led [.ref rx] (RBool led True true) := by
  unfold Claim
  k_fill
  intro dp un gd cn cs a ccd cl outer A₀ base h₀ L m s Q E B F X N T hk hdp hun hret
  have hi : ∀ p ∈ [(rx, instObj 89 rd), (rd, dictOf [{ hash := PyData.keyHash w.params (Str.ofString "mantissa"), key := .str (Str.ofString "mantissa") rt1, val := .int rm rt2 }, { hash := PyData.keyHash w.params (Str.ofString "exponent"), key := .str (Str.ofString "exponent") rt3, val := .int re rt4 }] 2)], p ∈ led := by
    intro p hp
    simp only [List.mem_cons, List.not_mem_nil, or_false] at hp
    rcases hp with rfl | rfl | rfl | rfl <;> assumption
  have N1 := N.perm hi
  obtain ⟨f1, f2, f3, f4, f5, f6, f7, f8, f9, f10, f11, f12, f13, f14, f15, f16⟩ := whole_facts hm he
  have f1' : (exP rm re).2 ≠ 0 := by omega
  have f1s : sz (exP rm re).2 ≤ 9000 := Int.le_trans (sz_le64 (by omega)) (by decide)
  refine wpAny_call ?_
  k_dflt (refine' code_defG ?k1 ?k2 ?k3 ?k4 ?k5 ?kA ?kF ?kK ?k6 ?k7 ?k8 ?k9 ?kB ?_ ?c2 ?c3 ?c4 ?c5; (case kA => exact rfl); (case kF => exact rfl); (case kK => assumption); (case k1 => k_asm); (case k2 => k_asm); (case k3 => k_asm); (case k4 => exact N1); (case k5 => k_asm); (case k6 => k_is); (case k7 => k_is); (case k8 => ktr_room); (case k9 => exact BindsTo.of_eq rfl); (case c5 => decide); (case kB => exact locs rfl); (case c2 => exact rfl); (case c3 => exact rfl); (case c4 => exact rfl); k_whole)
  intro g' L' h' FG' F' N' B' X' T' GS'
  try dsimp only
  try k_lift B'
  try k_fold
  clear N1
  k_steps
  all_goals refine ret_boolF hret N hi GS' (by assumption) (by assumption) (by assumption) (by kcj_all) trivial (Mine.dec_yes4 f11 f12 ?_ ?_)
  all_goals first
    | exact f13 (by omega)
    | exact f14 (by omega)
    | exact f15 (by omega)
    | exact f16 (by omega)
end Mine
local macro_rules | `(tactic| walk_at "call ref") => `(tactic| (k_here; (with_reducible show wpAny _ _ (call (Value.ref (nat_lit 317)) _) _ _ _); k_dflt (refine' (Mine.c_law_are_wholes_right ?p0 ?p1 ?p2 ?p3).use ?k1 ?k2 ?k3 ?k4 ?k5 ?kK ?kd ?ku ?_; (case k1 => k_asm); (case k2 => k_asm); (case k3 => k_asm); (case k4 => k_asm); (case k5 => k_asm); (case kK => first | exact rfl | assumption); (case kd => first | exact Mine.room (by assumption) (by decide) | ktr_room); (case ku => first | exact Mine.units (by assumption) (by decide) | ktr_units); (case p0 => k_mem); (case p1 => k_mem); (case p2 => first | assumption | omega); (case p3 => first | assumption | omega)); (intro h9 tk9 P9 F9 N9; (try dsimp only at N9); (try dsimp only); (try k_fold))))
namespace Mine
theorem ndec_no {P : Prop} [Decidable P] (h : P) : ¬ ((!decide P) = true) := by simpa using h
theorem ndec_imp {C P : Prop} [Decidable P] (h : C → P) (h0 : C) : ¬ ((!decide P) = true) := ndec_no (h h0)
theorem bits_bd (n : Int) : 2 ≤ 2 + n.fmod 11 ∧ 2 + n.fmod 11 ≤ 12 := by
  have := fmod_bd n (n := 11) (by decide)
  omega
theorem imports_none : importsNone view = true := by kernel_rfl
theorem names_ok : namesOk view (looseW view [Str.ofString "REACH"]) (namesW view [Str.ofString "REACH"]) = true := by kernel_rfl
end Mine
local macro_rules | `(tactic| k_qdec) => `(tactic| first | exact Mine.names_ok | exact Mine.imports_none)
local macro_rules | `(tactic| walk_at "call ref") => `(tactic| (k_here; (with_reducible show wpAny _ _ (call (Value.ref (nat_lit 289)) _) _ _ _); k_dflt (refine' Mine.frac_use ?p1 ?p2 ?p3 ?p4 ?p5 ?p6 ?k1 ?k2 ?k3 ?k4 ?k5 ?kK ?kd ?ku ?_; (case k1 => k_asm); (case k2 => k_asm); (case k3 => k_asm); (case k4 => k_asm); (case k5 => k_asm); (case kK => first | exact rfl | assumption); (case p1 => ktr_rel); (case p2 => ktr_rel); (case p3 => assumption); (case p4 => assumption); (case p5 => assumption); (case p6 => first | assumption | omega); (case kd => ktr_room); (case ku => ktr_units)); (intro x9 tp9 bt9 t19 t29 n09 y9 ty9 n19 n29 vs9 ns9 h9 tk9 ht9 hb9 hy9 hv9 hl9 hx9 hz9 F9 N9; (try dsimp only at N9); (try dsimp only); (try k_fold))))
local macro_rules | `(tactic| walk_at "RangeRest") => `(tactic| (k_dflt (refine' Mine.lap_loop ?F0 ?hL ?j ?p1 ?p2 ?d); (case F0 => k_asm); (case hL => k_dflt exact rfl); (case' p1 => ((rename Top _ _ _ _ _ _ => kT9); (rename Below _ _ _ _ => kB9); (rename Frag.In _ _ => kX9); revert kT9 kB9 kX9; law_clear; intro kT9 kB9 kX9 Q9 E9 bits9 tb9 wx9 lx9 y9 ty9 n19 n29 vs9 ns9 i9 p9 q9 t9 m9 h9 tk9 hb9 hv9 hl9 hy9 hne9 c19 c29 F9 N9)); (case' p2 => ((rename Top _ _ _ _ _ _ => kT9); (rename Below _ _ _ _ => kB9); (rename Frag.In _ _ => kX9); revert kT9 kB9 kX9; law_clear; intro kT9 kB9 kX9 Q9 E9 bits9 tb9 x19 x29 wx9 lx9 t19 b19 t29 b29 y9 b9 u19 u29 u39 u49 ty9 tby9 k19 k29 n19 n29 vs9 ns9 p9 q9 m9 h9 hh9 tk9 tkk9 d19 d29 d39 d49 d59 hb9 hv9 hl9 hy9 hne9 c19 c29 F9 N9; obtain ⟨e19, e29, e39, e49, e59, e69, e79, e89, ea9, eb9, ec9, ed9, ee9, ef9, eg9, eh9, ei9, ej9, ek9, el9, em9, en9, eo9, ep9, eq9⟩ := Mine.lap_facts hb9 d19 d29 d39 d49 d59)); (case' d => intro m9 h9 tk9 F9 N9)))
local macro_rules | `(tactic| walk_at "ite") => `(tactic| (k_here; first | (refine ite_neg (Mine.beq_no (by assumption)) ?_) | (refine ite_neg (Mine.dec_no (by assumption)) ?_) | (refine ite_pos (Mine.dec_yes (by assumption)) ?_) | (refine ite_neg (Mine.ndec_no (by assumption)) ?_) | (refine ite_neg (Mine.ndec_imp (by assumption) (by assumption)) ?_)))
theorem PySem.Challenge.cw_pq1013_01_holds : PySem.Challenge.rw_pq1013_01.Holds := by
  refine hd ?_
  k_go0
  (all_goals try k_fold)
  k_steps
  all_goals first
    | ((try dsimp only); refine Mine.mid_intro (by assumption) (by assumption) (by with_unfolding_all exact rfl) (by with_unfolding_all exact rfl) (by with_unfolding_all exact rfl) (by with_unfolding_all exact rfl) (by with_unfolding_all exact rfl) (by k_mem) (by k_mem) (by k_mem) (by k_mem) (by k_mem) (by omega) (by omega) (by omega) (by omega) (by omega) (by omega) (by assumption) (by assumption) (by assumption) (by assumption))
    | (refine ⟨_, _, _, _, _, _, _, _, _, _, ⟨by with_unfolding_all exact rfl, by with_unfolding_all exact rfl⟩, ⟨by k_mem, by k_mem⟩, Mine.bits_bd _, by assumption, ?_, ?_, ?_⟩ <;> (simp only [List.length_map] at *; omega))
    | (refine ⟨_, _, _, _, _, _, _, _, _, _, ⟨by with_unfolding_all exact rfl, by with_unfolding_all exact rfl⟩, ⟨by k_mem, by k_mem⟩, ?_, by assumption, ?_, ?_, ?_⟩ <;> assumption)

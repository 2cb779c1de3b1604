import PyProof.Rows.All
import Wide.All
import OpenK.AllK
import Wide.FinOn
import Lean
import PySem.Challenge.RW_np0057_01
open PySem PySem.W PyProof.Rows
set_option Elab.async false
set_option rowWalk.seconds 0
namespace Mine
section PartHead
set_option maxRecDepth 100000
set_option maxHeartbeats 8000000
noncomputable section
noncomputable abbrev lawP : Program := PySem.Challenge.rw_np0057_01.row.prog
noncomputable def fnAt (k j : Nat) : Arguments × List Stmt × Scope := match lawP.main.body[k]? with
  | some (.FunctionDef _ p b _ _ _ s _ _ _) => (p, b, s)
  | some (.ClassDef _ _ _ body _ _ _ _ _ _ _) => (match body[j]? with | some (.FunctionDef _ p b _ _ _ s _ _ _) => (p, b, s) | _ => default)
  | _ => default
noncomputable def fnO (nm qual : Str) (k j : Nat) (dV kV doc pm cd ct : Value) : Obj := { cls := .type "function", data := .func ⟨nm, qual, (fnAt k j).1, .stmts (fnAt k j).2.1, (fnAt k j).2.2, 3, [], dV, kV, doc, pm, none, cd, ct, 0⟩ }
noncomputable def hd.view_39 : Program := { lawP with main := { lawP.main with body := [0, 2, 4, 5, 6, 7, 8, 9, 10, 11, 12, 13, 14, 15, 16, 18, 19, 20, 21, 22, 23, 24, 25, 27, 28, 29, 30, 31, 33, 34, 35].filterMap fun i => lawP.main.body[i]? } }
noncomputable def hd.heap_39 : Params → Frag := fun P =>
  (nat_lit 2, ({ cls := Value.none,   data :=     Data.dict       #[{ hash := PyData.keyHash P (Str.ofString "type.__subclasses__.Exception.0"),           key := Value.str (Str.ofString "type.__subclasses__.Exception.0") 223, val := Value.int 38 0 },         { hash := PyData.keyHash P (Str.ofString "type.__subclasses__.Exception.n"),           key := Value.str (Str.ofString "type.__subclasses__.Exception.n") 224, val := Value.int 1 0 }]       2 } : Obj)) ::
  (nat_lit 3, ({ cls := Value.type "dict",   data :=     Data.dict       #[{ hash := PyData.keyHash P (Str.ofString "__name__"), key := Value.str (Str.ofString "__name__") 165,           val := Value.str (Str.ofString "law_np0057_01") 626 },         { hash := PyData.keyHash P (Str.ofString "__doc__"), key := Value.str (Str.ofString "__doc__") 166,           val := Value.none },         { hash := PyData.keyHash P (Str.ofString "__package__"), key := Value.str (Str.ofString "__package__") 167,           val := Value.none },         { hash := PyData.keyHash P (Str.ofString "__loader__"), key := Value.str (Str.ofString "__loader__") 168,           val := Value.builtin "__main__.__loader__#opaque" },         { hash := PyData.keyHash P (Str.ofString "__spec__"), key := Value.str (Str.ofString "__spec__") 169,           val := Value.none },         { hash := PyData.keyHash P (Str.ofString "__annotations__"),           key := Value.str (Str.ofString "__annotations__") 170, val := Value.ref 6 },         { hash := PyData.keyHash P (Str.ofString "__builtins__"), key := Value.str (Str.ofString "__builtins__") 171,           val := Value.ref 4 },         { hash := PyData.keyHash P (Str.ofString "__file__"), key := Value.str (Str.ofString "__file__") 173,           val := Value.str (Str.ofString "/claim/cut.py") 172 },         { hash := PyData.keyHash P (Str.ofString "__cached__"), key := Value.str (Str.ofString "__cached__") 174,           val := Value.none },         { hash := PyData.keyHash P (Str.ofString "_wall"), key := Value.str (Str.ofString "_wall") 193,           val := Value.ref 21 },         { hash := PyData.keyHash P (Str.ofString "LispSignal"), key := Value.str (Str.ofString "LispSignal") 226,           val := Value.ref 38 },         { hash := PyData.keyHash P (Str.ofString "LEAF"), key := Value.str (Str.ofString "LEAF") 230,           val := Value.int 0 229 },         { hash := PyData.keyHash P (Str.ofString "COLUMN"), key := Value.str (Str.ofString "COLUMN") 232,           val := Value.int 1 231 },         { hash := PyData.keyHash P (Str.ofString "ROW"), key := Value.str (Str.ofString "ROW") 234,           val := Value.int 2 233 },         { hash := PyData.keyHash P (Str.ofString "WIDTH"), key := Value.str (Str.ofString "WIDTH") 236,           val := Value.int 0 235 },         { hash := PyData.keyHash P (Str.ofString "HEIGHT"), key := Value.str (Str.ofString "HEIGHT") 238,           val := Value.int 1 237 },         { hash := PyData.keyHash P (Str.ofString "Window"), key := Value.str (Str.ofString "Window") 324,           val := Value.ref 93 },         { hash := PyData.keyHash P (Str.ofString "WindowTree"), key := Value.str (Str.ofString "WindowTree") 426,           val := Value.ref 164 },         { hash := PyData.keyHash P (Str.ofString "along"), key := Value.str (Str.ofString "along") 433,           val := Value.ref 175 },         { hash := PyData.keyHash P (Str.ofString "sort_along"), key := Value.str (Str.ofString "sort_along") 440,           val := Value.ref 182 },         { hash := PyData.keyHash P (Str.ofString "leaves_under"), key := Value.str (Str.ofString "leaves_under") 451,           val := Value.ref 189 },         { hash := PyData.keyHash P (Str.ofString "leaves"), key := Value.str (Str.ofString "leaves") 458,           val := Value.ref 196 },         { hash := PyData.keyHash P (Str.ofString "windows_under"), key := Value.str (Str.ofString "windows_under") 469,           val := Value.ref 203 },         { hash := PyData.keyHash P (Str.ofString "replace_child"), key := Value.str (Str.ofString "replace_child") 480,           val := Value.ref 210 },         { hash := PyData.keyHash P (Str.ofString "least_size"), key := Value.str (Str.ofString "least_size") 488,           val := Value.ref 215 },         { hash := PyData.keyHash P (Str.ofString "shares"), key := Value.str (Str.ofString "shares") 494,           val := Value.ref 220 },         { hash := PyData.keyHash P (Str.ofString "set_tree_size"), key := Value.str (Str.ofString "set_tree_size") 500,           val := Value.ref 225 },         { hash := PyData.keyHash P (Str.ofString "set_places"), key := Value.str (Str.ofString "set_places") 513,           val := Value.ref 232 },         { hash := PyData.keyHash P (Str.ofString "movable"), key := Value.str (Str.ofString "movable") 524,           val := Value.ref 239 },         { hash := PyData.keyHash P (Str.ofString "givers"), key := Value.str (Str.ofString "givers") 535,           val := Value.ref 246 },         { hash := PyData.keyHash P (Str.ofString "can_give"), key := Value.str (Str.ofString "can_give") 541,           val := Value.ref 251 },         { hash := PyData.keyHash P (Str.ofString "resize"), key := Value.str (Str.ofString "resize") 557,           val := Value.ref 258 },         { hash := PyData.keyHash P (Str.ofString "split_parts"), key := Value.str (Str.ofString "split_parts") 572,           val := Value.ref 265 },         { hash := PyData.keyHash P (Str.ofString "combined"), key := Value.str (Str.ofString "combined") 583,           val := Value.ref 272 },         { hash := PyData.keyHash P (Str.ofString "split"), key := Value.str (Str.ofString "split") 601,           val := Value.ref 279 },         { hash := PyData.keyHash P (Str.ofString "joined"), key := Value.str (Str.ofString "joined") 613,           val := Value.ref 286 },         { hash := PyData.keyHash P (Str.ofString "enlarge"), key := Value.str (Str.ofString "enlarge") 625,           val := Value.ref 293 },         { hash := PyData.keyHash P (Str.ofString "_law_draw"), key := Value.str (Str.ofString "_law_draw") 635,           val := Value.ref 300 },         { hash := PyData.keyHash P (Str.ofString "_law_taken"), key := Value.str (Str.ofString "_law_taken") 650,           val := Value.ref 307 },         { hash := PyData.keyHash P (Str.ofString "law"), key := Value.str (Str.ofString "law") 656,           val := Value.ref 312 }]       40 } : Obj)) ::
  (nat_lit 15, ({ cls := Value.type "tuple", data := Data.seq #[] } : Obj)) ::
  (nat_lit 17, ({ cls := Value.type "tuple", data := Data.seq #[Value.str (Str.ofString "k") 190] } : Obj)) ::
  (nat_lit 18, ({ cls := Value.type "tuple", data := Data.seq #[] } : Obj)) ::
  (nat_lit 20, ({ cls := Value.type "code",   data :=     Data.fields       #[Value.str (Str.ofString "_wall") 187, Value.str (Str.ofString "_wall") 188,         Value.str (Str.ofString "/claim/cut.py") 189, Value.int 1 0, Value.int 1 0, Value.int 0 0, Value.int 0 0,         Value.int 3 0, Value.ref 15, Value.bool true, Value.int 181 0, Value.ref 16, Value.none, Value.ref 17,         Value.ref 18, Value.ref 19, Value.int 191 0, Value.int 1 0, Value.str (Str.ofString "/claim/cut.py") 192] } : Obj)) ::
  (nat_lit 21, (fnO (Str.ofString "_wall") (Str.ofString "_wall") 0 0 (Value.none) (Value.none) (Value.none) (Value.str (Str.ofString "__main__") 164) (Value.ref 20) (Value.none) : Obj)) ::
  (nat_lit 22, ({ cls := Value.type "tuple", data := Data.seq #[Value.type "Exception"] } : Obj)) ::
  (nat_lit 29, ({ cls := Value.type "tuple", data := Data.seq #[] } : Obj)) ::
  (nat_lit 31, ({ cls := Value.type "tuple",   data :=     Data.seq       #[Value.str (Str.ofString "self") 211, Value.str (Str.ofString "symbol") 212,         Value.str (Str.ofString "data") 213] } : Obj)) ::
  (nat_lit 32, ({ cls := Value.type "tuple", data := Data.seq #[] } : Obj)) ::
  (nat_lit 34, ({ cls := Value.type "code",   data :=     Data.fields       #[Value.str (Str.ofString "__init__") 208, Value.str (Str.ofString "LispSignal.__init__") 209,         Value.str (Str.ofString "/claim/cut.py") 210, Value.int 7 0, Value.int 3 0, Value.int 0 0, Value.int 0 0,         Value.int 3 0, Value.ref 29, Value.bool true, Value.int 181 0, Value.ref 30, Value.none, Value.ref 31,         Value.ref 32, Value.ref 33, Value.int 214 0, Value.int 7 0, Value.str (Str.ofString "/claim/cut.py") 215] } : Obj)) ::
  (nat_lit 35, (fnO (Str.ofString "__init__") (Str.ofString "LispSignal.__init__") 2 0 (Value.none) (Value.none) (Value.none) (Value.str (Str.ofString "emacs.errors") 194) (Value.ref 34) (Value.none) : Obj)) ::
  (nat_lit 36, ({ cls := Value.type "tuple",   data := Data.seq #[Value.str (Str.ofString "data") 217, Value.str (Str.ofString "symbol") 218] } : Obj)) ::
  (nat_lit 37, ({ cls := Value.type "dict",   data :=     Data.dict       #[{ hash := PyData.keyHash P (Str.ofString "__module__"), key := Value.str (Str.ofString "__module__") 203,           val := Value.str (Str.ofString "emacs.errors") 194 },         { hash := PyData.keyHash P (Str.ofString "__firstlineno__"),           key := Value.str (Str.ofString "__firstlineno__") 207, val := Value.int 5 206 },         { hash := PyData.keyHash P (Str.ofString "__init__"), key := Value.str (Str.ofString "__init__") 216,           val := Value.ref 35 },         { hash := PyData.keyHash P (Str.ofString "__static_attributes__"),           key := Value.str (Str.ofString "__static_attributes__") 219, val := Value.ref 36 },         { hash := PyData.keyHash P (Str.ofString "__weakref__"), key := Value.str (Str.ofString "__weakref__") 221,           val := Value.ref 39 },         { hash := PyData.keyHash P (Str.ofString "__doc__"), key := Value.str (Str.ofString "__doc__") 222,           val := Value.none }]       3 } : Obj)) ::
  (nat_lit 38, ({ cls := Value.type "type",   data :=     Data.cls       { name := Str.ofString "LispSignal", bases := [Value.type "Exception"],         mro := [Value.ref 38, Value.type "Exception", Value.type "BaseException", Value.type "object"], ns := 37,         qualname := Str.ofString "LispSignal" },   slots :=     #[some (Value.ref 22), none, some (Value.str (Str.ofString "LispSignal") 196),       some (Value.str (Str.ofString "LispSignal") 204), some (Value.builtin "Exception.__new__"),       some (Value.bool true)] } : Obj)) ::
  (nat_lit 39, ({ cls := Value.type "getset_descriptor",   data :=     Data.fields       #[Value.str (Str.ofString "__weakref__") 220, Value.ref 38, Value.builtin "ExceptionGroup.__weakref__",         Value.none] } : Obj)) ::
  (nat_lit 49, ({ cls := Value.type "tuple", data := Data.seq #[] } : Obj)) ::
  (nat_lit 51, ({ cls := Value.type "tuple",   data :=     Data.seq       #[Value.str (Str.ofString "self") 254, Value.str (Str.ofString "number") 255, Value.str (Str.ofString "sort") 256,         Value.str (Str.ofString "parent") 257] } : Obj)) ::
  (nat_lit 52, ({ cls := Value.type "tuple", data := Data.seq #[] } : Obj)) ::
  (nat_lit 54, ({ cls := Value.type "code",   data :=     Data.fields       #[Value.str (Str.ofString "__init__") 251, Value.str (Str.ofString "Window.__init__") 252,         Value.str (Str.ofString "/claim/cut.py") 253, Value.int 18 0, Value.int 4 0, Value.int 0 0, Value.int 0 0,         Value.int 3 0, Value.ref 49, Value.bool true, Value.int 181 0, Value.ref 50, Value.none, Value.ref 51,         Value.ref 52, Value.ref 53, Value.int 258 0, Value.int 18 0, Value.str (Str.ofString "/claim/cut.py") 259] } : Obj)) ::
  (nat_lit 55, (fnO (Str.ofString "__init__") (Str.ofString "Window.__init__") 9 0 (Value.none) (Value.none) (Value.none) (Value.str (Str.ofString "emacs.windows") 227) (Value.ref 54) (Value.none) : Obj)) ::
  (nat_lit 56, ({ cls := Value.type "tuple", data := Data.seq #[] } : Obj)) ::
  (nat_lit 58, ({ cls := Value.type "tuple",   data := Data.seq #[Value.str (Str.ofString "self") 264, Value.str (Str.ofString "axis") 265] } : Obj)) ::
  (nat_lit 59, ({ cls := Value.type "tuple", data := Data.seq #[] } : Obj)) ::
  (nat_lit 61, ({ cls := Value.type "code",   data :=     Data.fields       #[Value.str (Str.ofString "size") 261, Value.str (Str.ofString "Window.size") 262,         Value.str (Str.ofString "/claim/cut.py") 263, Value.int 36 0, Value.int 2 0, Value.int 0 0, Value.int 0 0,         Value.int 3 0, Value.ref 56, Value.bool true, Value.int 181 0, Value.ref 57, Value.none, Value.ref 58,         Value.ref 59, Value.ref 60, Value.int 266 0, Value.int 36 0, Value.str (Str.ofString "/claim/cut.py") 267] } : Obj)) ::
  (nat_lit 62, (fnO (Str.ofString "size") (Str.ofString "Window.size") 9 1 (Value.none) (Value.none) (Value.none) (Value.str (Str.ofString "emacs.windows") 227) (Value.ref 61) (Value.none) : Obj)) ::
  (nat_lit 63, ({ cls := Value.type "tuple", data := Data.seq #[] } : Obj)) ::
  (nat_lit 65, ({ cls := Value.type "tuple",   data :=     Data.seq       #[Value.str (Str.ofString "self") 272, Value.str (Str.ofString "axis") 273, Value.str (Str.ofString "size") 274] } : Obj)) ::
  (nat_lit 66, ({ cls := Value.type "tuple", data := Data.seq #[] } : Obj)) ::
  (nat_lit 68, ({ cls := Value.type "code",   data :=     Data.fields       #[Value.str (Str.ofString "set_size") 269, Value.str (Str.ofString "Window.set_size") 270,         Value.str (Str.ofString "/claim/cut.py") 271, Value.int 39 0, Value.int 3 0, Value.int 0 0, Value.int 0 0,         Value.int 3 0, Value.ref 63, Value.bool true, Value.int 181 0, Value.ref 64, Value.none, Value.ref 65,         Value.ref 66, Value.ref 67, Value.int 275 0, Value.int 39 0, Value.str (Str.ofString "/claim/cut.py") 276] } : Obj)) ::
  (nat_lit 69, (fnO (Str.ofString "set_size") (Str.ofString "Window.set_size") 9 2 (Value.none) (Value.none) (Value.none) (Value.str (Str.ofString "emacs.windows") 227) (Value.ref 68) (Value.none) : Obj)) ::
  (nat_lit 70, ({ cls := Value.type "tuple", data := Data.seq #[] } : Obj)) ::
  (nat_lit 72, ({ cls := Value.type "tuple",   data := Data.seq #[Value.str (Str.ofString "self") 281, Value.str (Str.ofString "axis") 282] } : Obj)) ::
  (nat_lit 73, ({ cls := Value.type "tuple", data := Data.seq #[] } : Obj)) ::
  (nat_lit 75, ({ cls := Value.type "code",   data :=     Data.fields       #[Value.str (Str.ofString "place") 278, Value.str (Str.ofString "Window.place") 279,         Value.str (Str.ofString "/claim/cut.py") 280, Value.int 45 0, Value.int 2 0, Value.int 0 0, Value.int 0 0,         Value.int 3 0, Value.ref 70, Value.bool true, Value.int 181 0, Value.ref 71, Value.none, Value.ref 72,         Value.ref 73, Value.ref 74, Value.int 283 0, Value.int 45 0, Value.str (Str.ofString "/claim/cut.py") 284] } : Obj)) ::
  (nat_lit 76, (fnO (Str.ofString "place") (Str.ofString "Window.place") 9 3 (Value.none) (Value.none) (Value.none) (Value.str (Str.ofString "emacs.windows") 227) (Value.ref 75) (Value.none) : Obj)) ::
  (nat_lit 77, ({ cls := Value.type "tuple", data := Data.seq #[] } : Obj)) ::
  (nat_lit 79, ({ cls := Value.type "tuple", data := Data.seq #[Value.str (Str.ofString "self") 289] } : Obj)) ::
  (nat_lit 80, ({ cls := Value.type "tuple", data := Data.seq #[] } : Obj)) ::
  (nat_lit 82, ({ cls := Value.type "code",   data :=     Data.fields       #[Value.str (Str.ofString "shown") 286, Value.str (Str.ofString "Window.shown") 287,         Value.str (Str.ofString "/claim/cut.py") 288, Value.int 48 0, Value.int 1 0, Value.int 0 0, Value.int 0 0,         Value.int 3 0, Value.ref 77, Value.bool true, Value.int 181 0, Value.ref 78, Value.none, Value.ref 79,         Value.ref 80, Value.ref 81, Value.int 290 0, Value.int 48 0, Value.str (Str.ofString "/claim/cut.py") 291] } : Obj)) ::
  (nat_lit 83, (fnO (Str.ofString "shown") (Str.ofString "Window.shown") 9 4 (Value.none) (Value.none) (Value.none) (Value.str (Str.ofString "emacs.windows") 227) (Value.ref 82) (Value.none) : Obj)) ::
  (nat_lit 84, ({ cls := Value.type "tuple", data := Data.seq #[] } : Obj)) ::
  (nat_lit 86, ({ cls := Value.type "tuple",   data := Data.seq #[Value.str (Str.ofString "self") 296, Value.str (Str.ofString "told") 297] } : Obj)) ::
  (nat_lit 87, ({ cls := Value.type "tuple", data := Data.seq #[] } : Obj)) ::
  (nat_lit 89, ({ cls := Value.type "code",   data :=     Data.fields       #[Value.str (Str.ofString "show") 293, Value.str (Str.ofString "Window.show") 294,         Value.str (Str.ofString "/claim/cut.py") 295, Value.int 51 0, Value.int 2 0, Value.int 0 0, Value.int 0 0,         Value.int 3 0, Value.ref 84, Value.bool true, Value.int 181 0, Value.ref 85, Value.none, Value.ref 86,         Value.ref 87, Value.ref 88, Value.int 298 0, Value.int 51 0, Value.str (Str.ofString "/claim/cut.py") 299] } : Obj)) ::
  (nat_lit 90, (fnO (Str.ofString "show") (Str.ofString "Window.show") 9 5 (Value.none) (Value.none) (Value.none) (Value.str (Str.ofString "emacs.windows") 227) (Value.ref 89) (Value.none) : Obj)) ::
  (nat_lit 91, ({ cls := Value.type "tuple",   data :=     Data.seq       #[Value.str (Str.ofString "buffer") 301, Value.str (Str.ofString "children") 302,         Value.str (Str.ofString "earlier") 303, Value.str (Str.ofString "height") 304,         Value.str (Str.ofString "hscroll") 305, Value.str (Str.ofString "is_dedicated") 306,         Value.str (Str.ofString "later") 307, Value.str (Str.ofString "left") 308,         Value.str (Str.ofString "number") 309, Value.str (Str.ofString "parent") 310,         Value.str (Str.ofString "point") 311, Value.str (Str.ofString "sort") 312, Value.str (Str.ofString "start") 313,         Value.str (Str.ofString "top") 314, Value.str (Str.ofString "use_time") 315,         Value.str (Str.ofString "width") 316] } : Obj)) ::
  (nat_lit 92, ({ cls := Value.type "dict",   data :=     Data.dict       #[{ hash := PyData.keyHash P (Str.ofString "__module__"), key := Value.str (Str.ofString "__module__") 246,           val := Value.str (Str.ofString "emacs.windows") 227 },         { hash := PyData.keyHash P (Str.ofString "__firstlineno__"),           key := Value.str (Str.ofString "__firstlineno__") 250, val := Value.int 16 249 },         { hash := PyData.keyHash P (Str.ofString "__init__"), key := Value.str (Str.ofString "__init__") 260,           val := Value.ref 55 },         { hash := PyData.keyHash P (Str.ofString "size"), key := Value.str (Str.ofString "size") 268,           val := Value.ref 62 },         { hash := PyData.keyHash P (Str.ofString "set_size"), key := Value.str (Str.ofString "set_size") 277,           val := Value.ref 69 },         { hash := PyData.keyHash P (Str.ofString "place"), key := Value.str (Str.ofString "place") 285,           val := Value.ref 76 },         { hash := PyData.keyHash P (Str.ofString "shown"), key := Value.str (Str.ofString "shown") 292,           val := Value.ref 83 },         { hash := PyData.keyHash P (Str.ofString "show"), key := Value.str (Str.ofString "show") 300,           val := Value.ref 90 },         { hash := PyData.keyHash P (Str.ofString "__static_attributes__"),           key := Value.str (Str.ofString "__static_attributes__") 317, val := Value.ref 91 },         { hash := PyData.keyHash P (Str.ofString "__dict__"), key := Value.str (Str.ofString "__dict__") 319,           val := Value.ref 94 },         { hash := PyData.keyHash P (Str.ofString "__weakref__"), key := Value.str (Str.ofString "__weakref__") 321,           val := Value.ref 95 },         { hash := PyData.keyHash P (Str.ofString "__doc__"), key := Value.str (Str.ofString "__doc__") 322,           val := Value.none }]       4 } : Obj)) ::
  (nat_lit 93, ({ cls := Value.type "type",   data :=     Data.cls       { name := Str.ofString "Window", bases := [Value.type "object"], mro := [Value.ref 93, Value.type "object"],         ns := 92, qualname := Str.ofString "Window" },   slots :=     #[none, none, some (Value.str (Str.ofString "Window") 239), some (Value.str (Str.ofString "Window") 247),       some (Value.builtin "object.__new__"), some (Value.bool true)] } : Obj)) ::
  (nat_lit 94, ({ cls := Value.type "getset_descriptor",   data :=     Data.fields       #[Value.str (Str.ofString "__dict__") 318, Value.ref 93, Value.builtin "function.__dict__",         Value.builtin "function.__dict__#set"] } : Obj)) ::
  (nat_lit 95, ({ cls := Value.type "getset_descriptor",   data :=     Data.fields       #[Value.str (Str.ofString "__weakref__") 320, Value.ref 93, Value.builtin "ExceptionGroup.__weakref__",         Value.none] } : Obj)) ::
  (nat_lit 105, ({ cls := Value.type "tuple", data := Data.seq #[Value.int 10 337, Value.int 4 338] } : Obj)) ::
  (nat_lit 106, ({ cls := Value.type "tuple", data := Data.seq #[] } : Obj)) ::
  (nat_lit 108, ({ cls := Value.type "tuple",   data :=     Data.seq       #[Value.str (Str.ofString "self") 342, Value.str (Str.ofString "width") 343,         Value.str (Str.ofString "height") 344, Value.str (Str.ofString "buffer") 345,         Value.str (Str.ofString "least_width") 346, Value.str (Str.ofString "least_height") 347,         Value.str (Str.ofString "first") 348] } : Obj)) ::
  (nat_lit 109, ({ cls := Value.type "tuple", data := Data.seq #[] } : Obj)) ::
  (nat_lit 111, ({ cls := Value.type "code",   data :=     Data.fields       #[Value.str (Str.ofString "__init__") 339, Value.str (Str.ofString "WindowTree.__init__") 340,         Value.str (Str.ofString "/claim/cut.py") 341, Value.int 55 0, Value.int 6 0, Value.int 0 0, Value.int 0 0,         Value.int 3 0, Value.ref 106, Value.bool true, Value.int 181 0, Value.ref 107, Value.none, Value.ref 108,         Value.ref 109, Value.ref 110, Value.int 349 0, Value.int 55 0, Value.str (Str.ofString "/claim/cut.py") 350] } : Obj)) ::
  (nat_lit 112, (fnO (Str.ofString "__init__") (Str.ofString "WindowTree.__init__") 10 0 (Value.ref 105) (Value.none) (Value.none) (Value.str (Str.ofString "emacs.windows") 227) (Value.ref 111) (Value.none) : Obj)) ::
  (nat_lit 113, ({ cls := Value.type "tuple", data := Data.seq #[] } : Obj)) ::
  (nat_lit 115, ({ cls := Value.type "tuple",   data :=     Data.seq       #[Value.str (Str.ofString "self") 355, Value.str (Str.ofString "sort") 356, Value.str (Str.ofString "parent") 357,         Value.str (Str.ofString "found") 358] } : Obj)) ::
  (nat_lit 116, ({ cls := Value.type "tuple", data := Data.seq #[] } : Obj)) ::
  (nat_lit 118, ({ cls := Value.type "code",   data :=     Data.fields       #[Value.str (Str.ofString "fresh") 352, Value.str (Str.ofString "WindowTree.fresh") 353,         Value.str (Str.ofString "/claim/cut.py") 354, Value.int 69 0, Value.int 3 0, Value.int 0 0, Value.int 0 0,         Value.int 3 0, Value.ref 113, Value.bool true, Value.int 181 0, Value.ref 114, Value.none, Value.ref 115,         Value.ref 116, Value.ref 117, Value.int 359 0, Value.int 69 0, Value.str (Str.ofString "/claim/cut.py") 360] } : Obj)) ::
  (nat_lit 119, (fnO (Str.ofString "fresh") (Str.ofString "WindowTree.fresh") 10 1 (Value.none) (Value.none) (Value.none) (Value.str (Str.ofString "emacs.windows") 227) (Value.ref 118) (Value.none) : Obj)) ::
  (nat_lit 120, ({ cls := Value.type "tuple", data := Data.seq #[] } : Obj)) ::
  (nat_lit 122, ({ cls := Value.type "tuple",   data :=     Data.seq       #[Value.str (Str.ofString "self") 365, Value.str (Str.ofString "number") 366,         Value.str (Str.ofString "found") 367] } : Obj)) ::
  (nat_lit 123, ({ cls := Value.type "tuple", data := Data.seq #[] } : Obj)) ::
  (nat_lit 125, ({ cls := Value.type "code",   data :=     Data.fields       #[Value.str (Str.ofString "window") 362, Value.str (Str.ofString "WindowTree.window") 363,         Value.str (Str.ofString "/claim/cut.py") 364, Value.int 75 0, Value.int 2 0, Value.int 0 0, Value.int 0 0,         Value.int 3 0, Value.ref 120, Value.bool true, Value.int 181 0, Value.ref 121, Value.none, Value.ref 122,         Value.ref 123, Value.ref 124, Value.int 368 0, Value.int 75 0, Value.str (Str.ofString "/claim/cut.py") 369] } : Obj)) ::
  (nat_lit 126, (fnO (Str.ofString "window") (Str.ofString "WindowTree.window") 10 2 (Value.none) (Value.none) (Value.none) (Value.str (Str.ofString "emacs.windows") 227) (Value.ref 125) (Value.none) : Obj)) ::
  (nat_lit 127, ({ cls := Value.type "tuple", data := Data.seq #[] } : Obj)) ::
  (nat_lit 129, ({ cls := Value.type "tuple",   data :=     Data.seq       #[Value.str (Str.ofString "self") 374, Value.str (Str.ofString "number") 375,         Value.str (Str.ofString "found") 376] } : Obj)) ::
  (nat_lit 130, ({ cls := Value.type "tuple", data := Data.seq #[] } : Obj)) ::
  (nat_lit 132, ({ cls := Value.type "code",   data :=     Data.fields       #[Value.str (Str.ofString "leaf") 371, Value.str (Str.ofString "WindowTree.leaf") 372,         Value.str (Str.ofString "/claim/cut.py") 373, Value.int 81 0, Value.int 2 0, Value.int 0 0, Value.int 0 0,         Value.int 3 0, Value.ref 127, Value.bool true, Value.int 181 0, Value.ref 128, Value.none, Value.ref 129,         Value.ref 130, Value.ref 131, Value.int 377 0, Value.int 81 0, Value.str (Str.ofString "/claim/cut.py") 378] } : Obj)) ::
  (nat_lit 133, (fnO (Str.ofString "leaf") (Str.ofString "WindowTree.leaf") 10 3 (Value.none) (Value.none) (Value.none) (Value.str (Str.ofString "emacs.windows") 227) (Value.ref 132) (Value.none) : Obj)) ::
  (nat_lit 134, ({ cls := Value.type "tuple", data := Data.seq #[] } : Obj)) ::
  (nat_lit 136, ({ cls := Value.type "tuple",   data := Data.seq #[Value.str (Str.ofString "self") 383, Value.str (Str.ofString "number") 384] } : Obj)) ::
  (nat_lit 137, ({ cls := Value.type "tuple", data := Data.seq #[] } : Obj)) ::
  (nat_lit 139, ({ cls := Value.type "code",   data :=     Data.fields       #[Value.str (Str.ofString "touch") 380, Value.str (Str.ofString "WindowTree.touch") 381,         Value.str (Str.ofString "/claim/cut.py") 382, Value.int 87 0, Value.int 2 0, Value.int 0 0, Value.int 0 0,         Value.int 3 0, Value.ref 134, Value.bool true, Value.int 181 0, Value.ref 135, Value.none, Value.ref 136,         Value.ref 137, Value.ref 138, Value.int 385 0, Value.int 87 0, Value.str (Str.ofString "/claim/cut.py") 386] } : Obj)) ::
  (nat_lit 140, (fnO (Str.ofString "touch") (Str.ofString "WindowTree.touch") 10 4 (Value.none) (Value.none) (Value.none) (Value.str (Str.ofString "emacs.windows") 227) (Value.ref 139) (Value.none) : Obj)) ::
  (nat_lit 141, ({ cls := Value.type "tuple", data := Data.seq #[] } : Obj)) ::
  (nat_lit 143, ({ cls := Value.type "tuple",   data := Data.seq #[Value.str (Str.ofString "self") 391, Value.str (Str.ofString "number") 392] } : Obj)) ::
  (nat_lit 144, ({ cls := Value.type "tuple", data := Data.seq #[] } : Obj)) ::
  (nat_lit 146, ({ cls := Value.type "code",   data :=     Data.fields       #[Value.str (Str.ofString "select") 388, Value.str (Str.ofString "WindowTree.select") 389,         Value.str (Str.ofString "/claim/cut.py") 390, Value.int 91 0, Value.int 2 0, Value.int 0 0, Value.int 0 0,         Value.int 3 0, Value.ref 141, Value.bool true, Value.int 181 0, Value.ref 142, Value.none, Value.ref 143,         Value.ref 144, Value.ref 145, Value.int 393 0, Value.int 91 0, Value.str (Str.ofString "/claim/cut.py") 394] } : Obj)) ::
  (nat_lit 147, (fnO (Str.ofString "select") (Str.ofString "WindowTree.select") 10 5 (Value.none) (Value.none) (Value.none) (Value.str (Str.ofString "emacs.windows") 227) (Value.ref 146) (Value.none) : Obj)) ::
  (nat_lit 148, ({ cls := Value.type "tuple", data := Data.seq #[] } : Obj)) ::
  (nat_lit 150, ({ cls := Value.type "tuple",   data := Data.seq #[Value.str (Str.ofString "self") 399, Value.str (Str.ofString "axis") 400] } : Obj)) ::
  (nat_lit 151, ({ cls := Value.type "tuple", data := Data.seq #[] } : Obj)) ::
  (nat_lit 153, ({ cls := Value.type "code",   data :=     Data.fields       #[Value.str (Str.ofString "least_leaf") 396, Value.str (Str.ofString "WindowTree.least_leaf") 397,         Value.str (Str.ofString "/claim/cut.py") 398, Value.int 94 0, Value.int 2 0, Value.int 0 0, Value.int 0 0,         Value.int 3 0, Value.ref 148, Value.bool true, Value.int 181 0, Value.ref 149, Value.none, Value.ref 150,         Value.ref 151, Value.ref 152, Value.int 401 0, Value.int 94 0, Value.str (Str.ofString "/claim/cut.py") 402] } : Obj)) ::
  (nat_lit 154, (fnO (Str.ofString "least_leaf") (Str.ofString "WindowTree.least_leaf") 10 6 (Value.none) (Value.none) (Value.none) (Value.str (Str.ofString "emacs.windows") 227) (Value.ref 153) (Value.none) : Obj)) ::
  (nat_lit 155, ({ cls := Value.type "tuple", data := Data.seq #[] } : Obj)) ::
  (nat_lit 157, ({ cls := Value.type "tuple",   data := Data.seq #[Value.str (Str.ofString "self") 407, Value.str (Str.ofString "axis") 408] } : Obj)) ::
  (nat_lit 158, ({ cls := Value.type "tuple", data := Data.seq #[] } : Obj)) ::
  (nat_lit 160, ({ cls := Value.type "code",   data :=     Data.fields       #[Value.str (Str.ofString "frame_size") 404, Value.str (Str.ofString "WindowTree.frame_size") 405,         Value.str (Str.ofString "/claim/cut.py") 406, Value.int 97 0, Value.int 2 0, Value.int 0 0, Value.int 0 0,         Value.int 3 0, Value.ref 155, Value.bool true, Value.int 181 0, Value.ref 156, Value.none, Value.ref 157,         Value.ref 158, Value.ref 159, Value.int 409 0, Value.int 97 0, Value.str (Str.ofString "/claim/cut.py") 410] } : Obj)) ::
  (nat_lit 161, (fnO (Str.ofString "frame_size") (Str.ofString "WindowTree.frame_size") 10 7 (Value.none) (Value.none) (Value.none) (Value.str (Str.ofString "emacs.windows") 227) (Value.ref 160) (Value.none) : Obj)) ::
  (nat_lit 162, ({ cls := Value.type "tuple",   data :=     Data.seq       #[Value.str (Str.ofString "clock") 412, Value.str (Str.ofString "last") 413,         Value.str (Str.ofString "least_height") 414, Value.str (Str.ofString "least_width") 415,         Value.str (Str.ofString "root") 416, Value.str (Str.ofString "selected") 417,         Value.str (Str.ofString "windows") 418] } : Obj)) ::
  (nat_lit 163, ({ cls := Value.type "dict",   data :=     Data.dict       #[{ hash := PyData.keyHash P (Str.ofString "__module__"), key := Value.str (Str.ofString "__module__") 332,           val := Value.str (Str.ofString "emacs.windows") 227 },         { hash := PyData.keyHash P (Str.ofString "__firstlineno__"),           key := Value.str (Str.ofString "__firstlineno__") 336, val := Value.int 53 335 },         { hash := PyData.keyHash P (Str.ofString "__init__"), key := Value.str (Str.ofString "__init__") 351,           val := Value.ref 112 },         { hash := PyData.keyHash P (Str.ofString "fresh"), key := Value.str (Str.ofString "fresh") 361,           val := Value.ref 119 },         { hash := PyData.keyHash P (Str.ofString "window"), key := Value.str (Str.ofString "window") 370,           val := Value.ref 126 },         { hash := PyData.keyHash P (Str.ofString "leaf"), key := Value.str (Str.ofString "leaf") 379,           val := Value.ref 133 },         { hash := PyData.keyHash P (Str.ofString "touch"), key := Value.str (Str.ofString "touch") 387,           val := Value.ref 140 },         { hash := PyData.keyHash P (Str.ofString "select"), key := Value.str (Str.ofString "select") 395,           val := Value.ref 147 },         { hash := PyData.keyHash P (Str.ofString "least_leaf"), key := Value.str (Str.ofString "least_leaf") 403,           val := Value.ref 154 },         { hash := PyData.keyHash P (Str.ofString "frame_size"), key := Value.str (Str.ofString "frame_size") 411,           val := Value.ref 161 },         { hash := PyData.keyHash P (Str.ofString "__static_attributes__"),           key := Value.str (Str.ofString "__static_attributes__") 419, val := Value.ref 162 },         { hash := PyData.keyHash P (Str.ofString "__dict__"), key := Value.str (Str.ofString "__dict__") 421,           val := Value.ref 165 },         { hash := PyData.keyHash P (Str.ofString "__weakref__"), key := Value.str (Str.ofString "__weakref__") 423,           val := Value.ref 166 },         { hash := PyData.keyHash P (Str.ofString "__doc__"), key := Value.str (Str.ofString "__doc__") 424,           val := Value.none }]       4 } : Obj)) ::
  (nat_lit 164, ({ cls := Value.type "type",   data :=     Data.cls       { name := Str.ofString "WindowTree", bases := [Value.type "object"], mro := [Value.ref 164, Value.type "object"],         ns := 163, qualname := Str.ofString "WindowTree" },   slots :=     #[none, none, some (Value.str (Str.ofString "WindowTree") 325), some (Value.str (Str.ofString "WindowTree") 333),       some (Value.builtin "object.__new__"), some (Value.bool true)] } : Obj)) ::
  (nat_lit 165, ({ cls := Value.type "getset_descriptor",   data :=     Data.fields       #[Value.str (Str.ofString "__dict__") 420, Value.ref 164, Value.builtin "function.__dict__",         Value.builtin "function.__dict__#set"] } : Obj)) ::
  (nat_lit 166, ({ cls := Value.type "getset_descriptor",   data :=     Data.fields       #[Value.str (Str.ofString "__weakref__") 422, Value.ref 164, Value.builtin "ExceptionGroup.__weakref__",         Value.none] } : Obj)) ::
  (nat_lit 169, ({ cls := Value.type "tuple", data := Data.seq #[] } : Obj)) ::
  (nat_lit 171, ({ cls := Value.type "tuple", data := Data.seq #[Value.str (Str.ofString "sort") 430] } : Obj)) ::
  (nat_lit 172, ({ cls := Value.type "tuple", data := Data.seq #[] } : Obj)) ::
  (nat_lit 174, ({ cls := Value.type "code",   data :=     Data.fields       #[Value.str (Str.ofString "along") 427, Value.str (Str.ofString "along") 428,         Value.str (Str.ofString "/claim/cut.py") 429, Value.int 99 0, Value.int 1 0, Value.int 0 0, Value.int 0 0,         Value.int 3 0, Value.ref 169, Value.bool true, Value.int 181 0, Value.ref 170, Value.none, Value.ref 171,         Value.ref 172, Value.ref 173, Value.int 431 0, Value.int 99 0, Value.str (Str.ofString "/claim/cut.py") 432] } : Obj)) ::
  (nat_lit 175, (fnO (Str.ofString "along") (Str.ofString "along") 11 0 (Value.none) (Value.none) (Value.none) (Value.str (Str.ofString "emacs.windows") 227) (Value.ref 174) (Value.none) : Obj)) ::
  (nat_lit 176, ({ cls := Value.type "tuple", data := Data.seq #[] } : Obj)) ::
  (nat_lit 178, ({ cls := Value.type "tuple", data := Data.seq #[Value.str (Str.ofString "axis") 437] } : Obj)) ::
  (nat_lit 179, ({ cls := Value.type "tuple", data := Data.seq #[] } : Obj)) ::
  (nat_lit 181, ({ cls := Value.type "code",   data :=     Data.fields       #[Value.str (Str.ofString "sort_along") 434, Value.str (Str.ofString "sort_along") 435,         Value.str (Str.ofString "/claim/cut.py") 436, Value.int 101 0, Value.int 1 0, Value.int 0 0, Value.int 0 0,         Value.int 3 0, Value.ref 176, Value.bool true, Value.int 181 0, Value.ref 177, Value.none, Value.ref 178,         Value.ref 179, Value.ref 180, Value.int 438 0, Value.int 101 0, Value.str (Str.ofString "/claim/cut.py") 439] } : Obj)) ::
  (nat_lit 182, (fnO (Str.ofString "sort_along") (Str.ofString "sort_along") 12 0 (Value.none) (Value.none) (Value.none) (Value.str (Str.ofString "emacs.windows") 227) (Value.ref 181) (Value.none) : Obj)) ::
  (nat_lit 183, ({ cls := Value.type "tuple", data := Data.seq #[] } : Obj)) ::
  (nat_lit 185, ({ cls := Value.type "tuple",   data :=     Data.seq       #[Value.str (Str.ofString "tree") 444, Value.str (Str.ofString "number") 445,         Value.str (Str.ofString "found") 446, Value.str (Str.ofString "waiting") 447,         Value.str (Str.ofString "here") 448] } : Obj)) ::
  (nat_lit 186, ({ cls := Value.type "tuple", data := Data.seq #[] } : Obj)) ::
  (nat_lit 188, ({ cls := Value.type "code",   data :=     Data.fields       #[Value.str (Str.ofString "leaves_under") 441, Value.str (Str.ofString "leaves_under") 442,         Value.str (Str.ofString "/claim/cut.py") 443, Value.int 103 0, Value.int 2 0, Value.int 0 0, Value.int 0 0,         Value.int 3 0, Value.ref 183, Value.bool true, Value.int 181 0, Value.ref 184, Value.none, Value.ref 185,         Value.ref 186, Value.ref 187, Value.int 449 0, Value.int 103 0, Value.str (Str.ofString "/claim/cut.py") 450] } : Obj)) ::
  (nat_lit 189, (fnO (Str.ofString "leaves_under") (Str.ofString "leaves_under") 13 0 (Value.none) (Value.none) (Value.none) (Value.str (Str.ofString "emacs.windows") 227) (Value.ref 188) (Value.none) : Obj)) ::
  (nat_lit 190, ({ cls := Value.type "tuple", data := Data.seq #[] } : Obj)) ::
  (nat_lit 192, ({ cls := Value.type "tuple", data := Data.seq #[Value.str (Str.ofString "tree") 455] } : Obj)) ::
  (nat_lit 193, ({ cls := Value.type "tuple", data := Data.seq #[] } : Obj)) ::
  (nat_lit 195, ({ cls := Value.type "code",   data :=     Data.fields       #[Value.str (Str.ofString "leaves") 452, Value.str (Str.ofString "leaves") 453,         Value.str (Str.ofString "/claim/cut.py") 454, Value.int 113 0, Value.int 1 0, Value.int 0 0, Value.int 0 0,         Value.int 3 0, Value.ref 190, Value.bool true, Value.int 181 0, Value.ref 191, Value.none, Value.ref 192,         Value.ref 193, Value.ref 194, Value.int 456 0, Value.int 113 0, Value.str (Str.ofString "/claim/cut.py") 457] } : Obj)) ::
  (nat_lit 196, (fnO (Str.ofString "leaves") (Str.ofString "leaves") 14 0 (Value.none) (Value.none) (Value.none) (Value.str (Str.ofString "emacs.windows") 227) (Value.ref 195) (Value.none) : Obj)) ::
  (nat_lit 197, ({ cls := Value.type "tuple", data := Data.seq #[] } : Obj)) ::
  (nat_lit 199, ({ cls := Value.type "tuple",   data :=     Data.seq       #[Value.str (Str.ofString "tree") 462, Value.str (Str.ofString "number") 463,         Value.str (Str.ofString "found") 464, Value.str (Str.ofString "waiting") 465,         Value.str (Str.ofString "here") 466] } : Obj)) ::
  (nat_lit 200, ({ cls := Value.type "tuple", data := Data.seq #[] } : Obj)) ::
  (nat_lit 202, ({ cls := Value.type "code",   data :=     Data.fields       #[Value.str (Str.ofString "windows_under") 459, Value.str (Str.ofString "windows_under") 460,         Value.str (Str.ofString "/claim/cut.py") 461, Value.int 115 0, Value.int 2 0, Value.int 0 0, Value.int 0 0,         Value.int 3 0, Value.ref 197, Value.bool true, Value.int 181 0, Value.ref 198, Value.none, Value.ref 199,         Value.ref 200, Value.ref 201, Value.int 467 0, Value.int 115 0, Value.str (Str.ofString "/claim/cut.py") 468] } : Obj)) ::
  (nat_lit 203, (fnO (Str.ofString "windows_under") (Str.ofString "windows_under") 15 0 (Value.none) (Value.none) (Value.none) (Value.str (Str.ofString "emacs.windows") 227) (Value.ref 202) (Value.none) : Obj)) ::
  (nat_lit 204, ({ cls := Value.type "tuple", data := Data.seq #[] } : Obj)) ::
  (nat_lit 206, ({ cls := Value.type "tuple",   data :=     Data.seq       #[Value.str (Str.ofString "tree") 473, Value.str (Str.ofString "old") 474, Value.str (Str.ofString "new") 475,         Value.str (Str.ofString "parent") 476, Value.str (Str.ofString "children") 477] } : Obj)) ::
  (nat_lit 207, ({ cls := Value.type "tuple", data := Data.seq #[] } : Obj)) ::
  (nat_lit 209, ({ cls := Value.type "code",   data :=     Data.fields       #[Value.str (Str.ofString "replace_child") 470, Value.str (Str.ofString "replace_child") 471,         Value.str (Str.ofString "/claim/cut.py") 472, Value.int 123 0, Value.int 3 0, Value.int 0 0, Value.int 0 0,         Value.int 3 0, Value.ref 204, Value.bool true, Value.int 181 0, Value.ref 205, Value.none, Value.ref 206,         Value.ref 207, Value.ref 208, Value.int 478 0, Value.int 123 0, Value.str (Str.ofString "/claim/cut.py") 479] } : Obj)) ::
  (nat_lit 210, (fnO (Str.ofString "replace_child") (Str.ofString "replace_child") 16 0 (Value.none) (Value.none) (Value.none) (Value.str (Str.ofString "emacs.windows") 227) (Value.ref 209) (Value.none) : Obj)) ::
  (nat_lit 211, ({ cls := Value.type "tuple", data := Data.seq #[] } : Obj)) ::
  (nat_lit 214, ({ cls := Value.type "code",   data :=     Data.fields       #[Value.str (Str.ofString "least_size") 483, Value.str (Str.ofString "least_size") 484,         Value.str (Str.ofString "/claim/cut.py") 485, Value.int 132 0, Value.int 3 0, Value.int 0 0, Value.int 0 0,         Value.int 3 0, Value.ref 211, Value.bool true, Value.int 181 0, Value.ref 212, Value.none, Value.none,         Value.none, Value.ref 213, Value.int 486 0, Value.int 132 0, Value.str (Str.ofString "/claim/cut.py") 487] } : Obj)) ::
  (nat_lit 215, (fnO (Str.ofString "least_size") (Str.ofString "least_size") 18 0 (Value.none) (Value.none) (Value.none) (Value.str (Str.ofString "emacs.sizes") 481) (Value.ref 214) (Value.none) : Obj)) ::
  (nat_lit 216, ({ cls := Value.type "tuple", data := Data.seq #[] } : Obj)) ::
  (nat_lit 219, ({ cls := Value.type "code",   data :=     Data.fields       #[Value.str (Str.ofString "shares") 489, Value.str (Str.ofString "shares") 490,         Value.str (Str.ofString "/claim/cut.py") 491, Value.int 143 0, Value.int 3 0, Value.int 0 0, Value.int 0 0,         Value.int 3 0, Value.ref 216, Value.bool true, Value.int 181 0, Value.ref 217, Value.none, Value.none,         Value.none, Value.ref 218, Value.int 492 0, Value.int 143 0, Value.str (Str.ofString "/claim/cut.py") 493] } : Obj)) ::
  (nat_lit 220, (fnO (Str.ofString "shares") (Str.ofString "shares") 19 0 (Value.none) (Value.none) (Value.none) (Value.str (Str.ofString "emacs.sizes") 481) (Value.ref 219) (Value.none) : Obj)) ::
  (nat_lit 221, ({ cls := Value.type "tuple", data := Data.seq #[] } : Obj)) ::
  (nat_lit 224, ({ cls := Value.type "code",   data :=     Data.fields       #[Value.str (Str.ofString "set_tree_size") 495, Value.str (Str.ofString "set_tree_size") 496,         Value.str (Str.ofString "/claim/cut.py") 497, Value.int 151 0, Value.int 4 0, Value.int 0 0, Value.int 0 0,         Value.int 3 0, Value.ref 221, Value.bool true, Value.int 181 0, Value.ref 222, Value.none, Value.none,         Value.none, Value.ref 223, Value.int 498 0, Value.int 151 0, Value.str (Str.ofString "/claim/cut.py") 499] } : Obj)) ::
  (nat_lit 225, (fnO (Str.ofString "set_tree_size") (Str.ofString "set_tree_size") 20 0 (Value.none) (Value.none) (Value.none) (Value.str (Str.ofString "emacs.sizes") 481) (Value.ref 224) (Value.none) : Obj)) ::
  (nat_lit 226, ({ cls := Value.type "tuple", data := Data.seq #[] } : Obj)) ::
  (nat_lit 228, ({ cls := Value.type "tuple",   data :=     Data.seq       #[Value.str (Str.ofString "tree") 504, Value.str (Str.ofString "waiting") 505,         Value.str (Str.ofString "number") 506, Value.str (Str.ofString "left") 507, Value.str (Str.ofString "top") 508,         Value.str (Str.ofString "here") 509, Value.str (Str.ofString "child") 510] } : Obj)) ::
  (nat_lit 229, ({ cls := Value.type "tuple", data := Data.seq #[] } : Obj)) ::
  (nat_lit 231, ({ cls := Value.type "code",   data :=     Data.fields       #[Value.str (Str.ofString "set_places") 501, Value.str (Str.ofString "set_places") 502,         Value.str (Str.ofString "/claim/cut.py") 503, Value.int 166 0, Value.int 1 0, Value.int 0 0, Value.int 0 0,         Value.int 3 0, Value.ref 226, Value.bool true, Value.int 181 0, Value.ref 227, Value.none, Value.ref 228,         Value.ref 229, Value.ref 230, Value.int 511 0, Value.int 166 0, Value.str (Str.ofString "/claim/cut.py") 512] } : Obj)) ::
  (nat_lit 232, (fnO (Str.ofString "set_places") (Str.ofString "set_places") 21 0 (Value.none) (Value.none) (Value.none) (Value.str (Str.ofString "emacs.sizes") 481) (Value.ref 231) (Value.none) : Obj)) ::
  (nat_lit 233, ({ cls := Value.type "tuple", data := Data.seq #[] } : Obj)) ::
  (nat_lit 235, ({ cls := Value.type "tuple",   data :=     Data.seq       #[Value.str (Str.ofString "tree") 517, Value.str (Str.ofString "number") 518, Value.str (Str.ofString "axis") 519,         Value.str (Str.ofString "here") 520, Value.str (Str.ofString "parent") 521] } : Obj)) ::
  (nat_lit 236, ({ cls := Value.type "tuple", data := Data.seq #[] } : Obj)) ::
  (nat_lit 238, ({ cls := Value.type "code",   data :=     Data.fields       #[Value.str (Str.ofString "movable") 514, Value.str (Str.ofString "movable") 515,         Value.str (Str.ofString "/claim/cut.py") 516, Value.int 178 0, Value.int 3 0, Value.int 0 0, Value.int 0 0,         Value.int 3 0, Value.ref 233, Value.bool true, Value.int 181 0, Value.ref 234, Value.none, Value.ref 235,         Value.ref 236, Value.ref 237, Value.int 522 0, Value.int 178 0, Value.str (Str.ofString "/claim/cut.py") 523] } : Obj)) ::
  (nat_lit 239, (fnO (Str.ofString "movable") (Str.ofString "movable") 22 0 (Value.none) (Value.none) (Value.none) (Value.str (Str.ofString "emacs.sizes") 481) (Value.ref 238) (Value.none) : Obj)) ::
  (nat_lit 240, ({ cls := Value.type "tuple", data := Data.seq #[] } : Obj)) ::
  (nat_lit 242, ({ cls := Value.type "tuple",   data :=     Data.seq       #[Value.str (Str.ofString "tree") 528, Value.str (Str.ofString "number") 529, Value.str (Str.ofString "here") 530,         Value.str (Str.ofString "children") 531, Value.str (Str.ofString "at") 532] } : Obj)) ::
  (nat_lit 243, ({ cls := Value.type "tuple", data := Data.seq #[] } : Obj)) ::
  (nat_lit 245, ({ cls := Value.type "code",   data :=     Data.fields       #[Value.str (Str.ofString "givers") 525, Value.str (Str.ofString "givers") 526,         Value.str (Str.ofString "/claim/cut.py") 527, Value.int 186 0, Value.int 2 0, Value.int 0 0, Value.int 0 0,         Value.int 3 0, Value.ref 240, Value.bool true, Value.int 181 0, Value.ref 241, Value.none, Value.ref 242,         Value.ref 243, Value.ref 244, Value.int 533 0, Value.int 186 0, Value.str (Str.ofString "/claim/cut.py") 534] } : Obj)) ::
  (nat_lit 246, (fnO (Str.ofString "givers") (Str.ofString "givers") 23 0 (Value.none) (Value.none) (Value.none) (Value.str (Str.ofString "emacs.sizes") 481) (Value.ref 245) (Value.none) : Obj)) ::
  (nat_lit 247, ({ cls := Value.type "tuple", data := Data.seq #[] } : Obj)) ::
  (nat_lit 250, ({ cls := Value.type "code",   data :=     Data.fields       #[Value.str (Str.ofString "can_give") 536, Value.str (Str.ofString "can_give") 537,         Value.str (Str.ofString "/claim/cut.py") 538, Value.int 191 0, Value.int 3 0, Value.int 0 0, Value.int 0 0,         Value.int 3 0, Value.ref 247, Value.bool true, Value.int 181 0, Value.ref 248, Value.none, Value.none,         Value.none, Value.ref 249, Value.int 539 0, Value.int 191 0, Value.str (Str.ofString "/claim/cut.py") 540] } : Obj)) ::
  (nat_lit 251, (fnO (Str.ofString "can_give") (Str.ofString "can_give") 24 0 (Value.none) (Value.none) (Value.none) (Value.str (Str.ofString "emacs.sizes") 481) (Value.ref 250) (Value.none) : Obj)) ::
  (nat_lit 252, ({ cls := Value.type "tuple", data := Data.seq #[] } : Obj)) ::
  (nat_lit 254, ({ cls := Value.type "tuple",   data :=     Data.seq       #[Value.str (Str.ofString "tree") 545, Value.str (Str.ofString "number") 546, Value.str (Str.ofString "axis") 547,         Value.str (Str.ofString "delta") 548, Value.str (Str.ofString "own") 549, Value.str (Str.ofString "here") 550,         Value.str (Str.ofString "left") 551, Value.str (Str.ofString "other") 552, Value.str (Str.ofString "size") 553,         Value.str (Str.ofString "part") 554] } : Obj)) ::
  (nat_lit 255, ({ cls := Value.type "tuple", data := Data.seq #[] } : Obj)) ::
  (nat_lit 257, ({ cls := Value.type "code",   data :=     Data.fields       #[Value.str (Str.ofString "resize") 542, Value.str (Str.ofString "resize") 543,         Value.str (Str.ofString "/claim/cut.py") 544, Value.int 193 0, Value.int 4 0, Value.int 0 0, Value.int 0 0,         Value.int 3 0, Value.ref 252, Value.bool true, Value.int 181 0, Value.ref 253, Value.none, Value.ref 254,         Value.ref 255, Value.ref 256, Value.int 555 0, Value.int 193 0, Value.str (Str.ofString "/claim/cut.py") 556] } : Obj)) ::
  (nat_lit 258, (fnO (Str.ofString "resize") (Str.ofString "resize") 25 0 (Value.none) (Value.none) (Value.none) (Value.str (Str.ofString "emacs.sizes") 481) (Value.ref 257) (Value.none) : Obj)) ::
  (nat_lit 259, ({ cls := Value.type "tuple", data := Data.seq #[] } : Obj)) ::
  (nat_lit 261, ({ cls := Value.type "tuple",   data :=     Data.seq       #[Value.str (Str.ofString "tree") 563, Value.str (Str.ofString "number") 564, Value.str (Str.ofString "size") 565,         Value.str (Str.ofString "axis") 566, Value.str (Str.ofString "whole") 567, Value.str (Str.ofString "new") 568,         Value.str (Str.ofString "old") 569] } : Obj)) ::
  (nat_lit 262, ({ cls := Value.type "tuple", data := Data.seq #[] } : Obj)) ::
  (nat_lit 264, ({ cls := Value.type "code",   data :=     Data.fields       #[Value.str (Str.ofString "split_parts") 560, Value.str (Str.ofString "split_parts") 561,         Value.str (Str.ofString "/claim/cut.py") 562, Value.int 209 0, Value.int 4 0, Value.int 0 0, Value.int 0 0,         Value.int 3 0, Value.ref 259, Value.bool true, Value.int 181 0, Value.ref 260, Value.none, Value.ref 261,         Value.ref 262, Value.ref 263, Value.int 570 0, Value.int 209 0, Value.str (Str.ofString "/claim/cut.py") 571] } : Obj)) ::
  (nat_lit 265, (fnO (Str.ofString "split_parts") (Str.ofString "split_parts") 27 0 (Value.none) (Value.none) (Value.none) (Value.str (Str.ofString "emacs.splits") 558) (Value.ref 264) (Value.none) : Obj)) ::
  (nat_lit 266, ({ cls := Value.type "tuple", data := Data.seq #[] } : Obj)) ::
  (nat_lit 268, ({ cls := Value.type "tuple",   data :=     Data.seq       #[Value.str (Str.ofString "tree") 576, Value.str (Str.ofString "number") 577, Value.str (Str.ofString "axis") 578,         Value.str (Str.ofString "here") 579, Value.str (Str.ofString "around") 580] } : Obj)) ::
  (nat_lit 269, ({ cls := Value.type "tuple", data := Data.seq #[] } : Obj)) ::
  (nat_lit 271, ({ cls := Value.type "code",   data :=     Data.fields       #[Value.str (Str.ofString "combined") 573, Value.str (Str.ofString "combined") 574,         Value.str (Str.ofString "/claim/cut.py") 575, Value.int 219 0, Value.int 3 0, Value.int 0 0, Value.int 0 0,         Value.int 3 0, Value.ref 266, Value.bool true, Value.int 181 0, Value.ref 267, Value.none, Value.ref 268,         Value.ref 269, Value.ref 270, Value.int 581 0, Value.int 219 0, Value.str (Str.ofString "/claim/cut.py") 582] } : Obj)) ::
  (nat_lit 272, (fnO (Str.ofString "combined") (Str.ofString "combined") 28 0 (Value.none) (Value.none) (Value.none) (Value.str (Str.ofString "emacs.splits") 558) (Value.ref 271) (Value.none) : Obj)) ::
  (nat_lit 273, ({ cls := Value.type "tuple", data := Data.seq #[] } : Obj)) ::
  (nat_lit 275, ({ cls := Value.type "tuple",   data :=     Data.seq       #[Value.str (Str.ofString "tree") 587, Value.str (Str.ofString "number") 588, Value.str (Str.ofString "size") 589,         Value.str (Str.ofString "axis") 590, Value.str (Str.ofString "is_ahead") 591,         Value.str (Str.ofString "old") 592, Value.str (Str.ofString "new") 593, Value.str (Str.ofString "parent") 594,         Value.str (Str.ofString "model") 595, Value.str (Str.ofString "found") 596,         Value.str (Str.ofString "children") 597, Value.str (Str.ofString "at") 598] } : Obj)) ::
  (nat_lit 276, ({ cls := Value.type "tuple", data := Data.seq #[] } : Obj)) ::
  (nat_lit 278, ({ cls := Value.type "code",   data :=     Data.fields       #[Value.str (Str.ofString "split") 584, Value.str (Str.ofString "split") 585,         Value.str (Str.ofString "/claim/cut.py") 586, Value.int 229 0, Value.int 5 0, Value.int 0 0, Value.int 0 0,         Value.int 3 0, Value.ref 273, Value.bool true, Value.int 181 0, Value.ref 274, Value.none, Value.ref 275,         Value.ref 276, Value.ref 277, Value.int 599 0, Value.int 229 0, Value.str (Str.ofString "/claim/cut.py") 600] } : Obj)) ::
  (nat_lit 279, (fnO (Str.ofString "split") (Str.ofString "split") 29 0 (Value.none) (Value.none) (Value.none) (Value.str (Str.ofString "emacs.splits") 558) (Value.ref 278) (Value.none) : Obj)) ::
  (nat_lit 280, ({ cls := Value.type "tuple", data := Data.seq #[] } : Obj)) ::
  (nat_lit 282, ({ cls := Value.type "tuple",   data :=     Data.seq       #[Value.str (Str.ofString "tree") 605, Value.str (Str.ofString "number") 606, Value.str (Str.ofString "here") 607,         Value.str (Str.ofString "found") 608, Value.str (Str.ofString "child") 609,         Value.str (Str.ofString "own") 610] } : Obj)) ::
  (nat_lit 283, ({ cls := Value.type "tuple", data := Data.seq #[] } : Obj)) ::
  (nat_lit 285, ({ cls := Value.type "code",   data :=     Data.fields       #[Value.str (Str.ofString "joined") 602, Value.str (Str.ofString "joined") 603,         Value.str (Str.ofString "/claim/cut.py") 604, Value.int 246 0, Value.int 2 0, Value.int 0 0, Value.int 0 0,         Value.int 3 0, Value.ref 280, Value.bool true, Value.int 181 0, Value.ref 281, Value.none, Value.ref 282,         Value.ref 283, Value.ref 284, Value.int 611 0, Value.int 246 0, Value.str (Str.ofString "/claim/cut.py") 612] } : Obj)) ::
  (nat_lit 286, (fnO (Str.ofString "joined") (Str.ofString "joined") 30 0 (Value.none) (Value.none) (Value.none) (Value.str (Str.ofString "emacs.splits") 558) (Value.ref 285) (Value.none) : Obj)) ::
  (nat_lit 287, ({ cls := Value.type "tuple", data := Data.seq #[] } : Obj)) ::
  (nat_lit 289, ({ cls := Value.type "tuple",   data :=     Data.seq       #[Value.str (Str.ofString "tree") 617, Value.str (Str.ofString "number") 618, Value.str (Str.ofString "axis") 619,         Value.str (Str.ofString "delta") 620, Value.str (Str.ofString "here") 621,         Value.str (Str.ofString "much") 622] } : Obj)) ::
  (nat_lit 290, ({ cls := Value.type "tuple", data := Data.seq #[] } : Obj)) ::
  (nat_lit 292, ({ cls := Value.type "code",   data :=     Data.fields       #[Value.str (Str.ofString "enlarge") 614, Value.str (Str.ofString "enlarge") 615,         Value.str (Str.ofString "/claim/cut.py") 616, Value.int 259 0, Value.int 4 0, Value.int 0 0, Value.int 0 0,         Value.int 3 0, Value.ref 287, Value.bool true, Value.int 181 0, Value.ref 288, Value.none, Value.ref 289,         Value.ref 290, Value.ref 291, Value.int 623 0, Value.int 259 0, Value.str (Str.ofString "/claim/cut.py") 624] } : Obj)) ::
  (nat_lit 293, (fnO (Str.ofString "enlarge") (Str.ofString "enlarge") 31 0 (Value.none) (Value.none) (Value.none) (Value.str (Str.ofString "emacs.splits") 558) (Value.ref 292) (Value.none) : Obj)) ::
  (nat_lit 294, ({ cls := Value.type "tuple", data := Data.seq #[] } : Obj)) ::
  (nat_lit 296, ({ cls := Value.type "tuple",   data := Data.seq #[Value.str (Str.ofString "deck") 631, Value.str (Str.ofString "many") 632] } : Obj)) ::
  (nat_lit 297, ({ cls := Value.type "tuple", data := Data.seq #[] } : Obj)) ::
  (nat_lit 299, ({ cls := Value.type "code",   data :=     Data.fields       #[Value.str (Str.ofString "_law_draw") 628, Value.str (Str.ofString "_law_draw") 629,         Value.str (Str.ofString "/claim/cut.py") 630, Value.int 271 0, Value.int 2 0, Value.int 0 0, Value.int 0 0,         Value.int 3 0, Value.ref 294, Value.bool true, Value.int 181 0, Value.ref 295, Value.none, Value.ref 296,         Value.ref 297, Value.ref 298, Value.int 633 0, Value.int 271 0, Value.str (Str.ofString "/claim/cut.py") 634] } : Obj)) ::
  (nat_lit 300, (fnO (Str.ofString "_law_draw") (Str.ofString "_law_draw") 33 0 (Value.none) (Value.none) (Value.none) (Value.str (Str.ofString "law_np0057_01") 626) (Value.ref 299) (Value.none) : Obj)) ::
  (nat_lit 301, ({ cls := Value.type "tuple", data := Data.seq #[] } : Obj)) ::
  (nat_lit 303, ({ cls := Value.type "tuple",   data :=     Data.seq       #[Value.str (Str.ofString "rooms") 639, Value.str (Str.ofString "at") 640, Value.str (Str.ofString "delta") 641,         Value.str (Str.ofString "least") 642, Value.str (Str.ofString "found") 643,         Value.str (Str.ofString "order") 644, Value.str (Str.ofString "left") 645, Value.str (Str.ofString "other") 646,         Value.str (Str.ofString "part") 647] } : Obj)) ::
  (nat_lit 304, ({ cls := Value.type "tuple", data := Data.seq #[] } : Obj)) ::
  (nat_lit 306, ({ cls := Value.type "code",   data :=     Data.fields       #[Value.str (Str.ofString "_law_taken") 636, Value.str (Str.ofString "_law_taken") 637,         Value.str (Str.ofString "/claim/cut.py") 638, Value.int 276 0, Value.int 4 0, Value.int 0 0, Value.int 0 0,         Value.int 3 0, Value.ref 301, Value.bool true, Value.int 181 0, Value.ref 302, Value.none, Value.ref 303,         Value.ref 304, Value.ref 305, Value.int 648 0, Value.int 276 0, Value.str (Str.ofString "/claim/cut.py") 649] } : Obj)) ::
  (nat_lit 307, (fnO (Str.ofString "_law_taken") (Str.ofString "_law_taken") 34 0 (Value.none) (Value.none) (Value.none) (Value.str (Str.ofString "law_np0057_01") 626) (Value.ref 306) (Value.none) : Obj)) ::
  (nat_lit 308, ({ cls := Value.type "tuple", data := Data.seq #[] } : Obj)) ::
  (nat_lit 311, ({ cls := Value.type "code",   data :=     Data.fields       #[Value.str (Str.ofString "law") 651, Value.str (Str.ofString "law") 652,         Value.str (Str.ofString "/claim/cut.py") 653, Value.int 292 0, Value.int 1 0, Value.int 0 0, Value.int 0 0,         Value.int 3 0, Value.ref 308, Value.bool true, Value.int 181 0, Value.ref 309, Value.none, Value.none,         Value.none, Value.ref 310, Value.int 654 0, Value.int 292 0, Value.str (Str.ofString "/claim/cut.py") 655] } : Obj)) ::
  (nat_lit 312, (fnO (Str.ofString "law") (Str.ofString "law") 35 0 (Value.none) (Value.none) (Value.none) (Value.str (Str.ofString "law_np0057_01") 626) (Value.ref 311) (Value.none) : Obj)) :: []
noncomputable def heapA : List Addr := [2, 3, 15, 17, 18, 20, 21, 22, 29, 31, 32, 34, 35, 36, 37, 38, 39, 49, 51, 52, 54, 55, 56, 58, 59, 61, 62, 63, 65, 66, 68, 69, 70, 72, 73, 75, 76, 77, 79, 80, 82, 83, 84, 86, 87, 89, 90, 91, 92, 93, 94, 95, 105, 106, 108, 109, 111, 112, 113, 115, 116, 118, 119, 120, 122, 123, 125, 126, 127, 129, 130, 132, 133, 134, 136, 137, 139, 140, 141, 143, 144, 146, 147, 148, 150, 151, 153, 154, 155, 157, 158, 160, 161, 162, 163, 164, 165, 166, 169, 171, 172, 174, 175, 176, 178, 179, 181, 182, 183, 185, 186, 188, 189, 190, 192, 193, 195, 196, 197, 199, 200, 202, 203, 204, 206, 207, 209, 210, 211, 214, 215, 216, 219, 220, 221, 224, 225, 226, 228, 229, 231, 232, 233, 235, 236, 238, 239, 240, 242, 243, 245, 246, 247, 250, 251, 252, 254, 255, 257, 258, 259, 261, 262, 264, 265, 266, 268, 269, 271, 272, 273, 275, 276, 278, 279, 280, 282, 283, 285, 286, 287, 289, 290, 292, 293, 294, 296, 297, 299, 300, 301, 303, 304, 306, 307, 308, 311, 312]
theorem heapE : ∀ P, heapA = (hd.heap_39 P).map (·.1) := fun _ => by kernel_rfl
noncomputable def fnR (nm qual : Str) (k j : Nat) : Obj := { cls := .none, data := .func ⟨nm, qual, (fnAt k j).1, .stmts (fnAt k j).2.1, (fnAt k j).2.2, 0, [], .none, .none, .none, .none, none, .none, .none, 0⟩ }
noncomputable def hob (P : Params) (k : Nat) : Obj := (((hd.heap_39 P)[k]?).getD (0, default)).2
noncomputable def ob11_1 (P : Params) : Obj := { cls := Value.type "tuple", data := Data.seq #[] }
noncomputable def ob12_2 (P : Params) : Obj := { cls := Value.none, data := Data.fields #[] }
noncomputable def ob13_3 (P : Params) : Obj := { cls := Value.type "code", data := Data.fields #[Value.str (Str.ofString "<module>") 182, Value.str (Str.ofString "<module>") 183, Value.str (Str.ofString "/claim/cut.py") 184, Value.int 1 0, Value.int 0 0, Value.int 0 0, Value.int 0 0, Value.int 0 0, Value.ref 11, Value.bool false, Value.int 181 0, Value.ref 12, Value.none, Value.none, Value.none, Value.none, Value.int 185 0, Value.int 1 0, Value.str (Str.ofString "/claim/cut.py") 186] }
noncomputable def ob14_4 (P : Params) : Obj := { cls := Value.type "frame", slots := #[some (Value.ref 13), some (Value.ref 3), some (Value.ref 3), none, some (Value.str (Str.ofString "__main__") 164), none, some (Value.ref 0)] }
noncomputable def ob3_5 (P : Params) : Obj := { cls := Value.type "dict", data := Data.dict #[{ hash := PyData.keyHash P (Str.ofString "__name__"), key := Value.str (Str.ofString "__name__") 165, val := Value.str (Str.ofString "emacs.windows") 227 }, { hash := PyData.keyHash P (Str.ofString "__doc__"), key := Value.str (Str.ofString "__doc__") 166, val := Value.none }, { hash := PyData.keyHash P (Str.ofString "__package__"), key := Value.str (Str.ofString "__package__") 167, val := Value.none }, { hash := PyData.keyHash P (Str.ofString "__loader__"), key := Value.str (Str.ofString "__loader__") 168, val := Value.builtin "__main__.__loader__#opaque" }, { hash := PyData.keyHash P (Str.ofString "__spec__"), key := Value.str (Str.ofString "__spec__") 169, val := Value.none }, { hash := PyData.keyHash P (Str.ofString "__annotations__"), key := Value.str (Str.ofString "__annotations__") 170, val := Value.ref 6 }, { hash := PyData.keyHash P (Str.ofString "__builtins__"), key := Value.str (Str.ofString "__builtins__") 171, val := Value.ref 4 }, { hash := PyData.keyHash P (Str.ofString "__file__"), key := Value.str (Str.ofString "__file__") 173, val := Value.str (Str.ofString "/claim/cut.py") 172 }, { hash := PyData.keyHash P (Str.ofString "__cached__"), key := Value.str (Str.ofString "__cached__") 174, val := Value.none }, { hash := PyData.keyHash P (Str.ofString "_wall"), key := Value.str (Str.ofString "_wall") 193, val := Value.ref 21 }, { hash := PyData.keyHash P (Str.ofString "LispSignal"), key := Value.str (Str.ofString "LispSignal") 226, val := Value.ref 38 }, { hash := PyData.keyHash P (Str.ofString "LEAF"), key := Value.str (Str.ofString "LEAF") 230, val := Value.int 0 229 }, { hash := PyData.keyHash P (Str.ofString "COLUMN"), key := Value.str (Str.ofString "COLUMN") 232, val := Value.int 1 231 }, { hash := PyData.keyHash P (Str.ofString "ROW"), key := Value.str (Str.ofString "ROW") 234, val := Value.int 2 233 }, { hash := PyData.keyHash P (Str.ofString "WIDTH"), key := Value.str (Str.ofString "WIDTH") 236, val := Value.int 0 235 }, { hash := PyData.keyHash P (Str.ofString "HEIGHT"), key := Value.str (Str.ofString "HEIGHT") 238, val := Value.int 1 237 }, { hash := PyData.keyHash P (Str.ofString "Window"), key := Value.str (Str.ofString "Window") 324, val := Value.ref 93 }] 17 }
noncomputable def ob12_6 (P : Params) : Obj := { cls := Value.none, data := Data.fields #[Value.int 1 0, Value.int 0 0, Value.ref 20, Value.int 5 0, Value.int 0 0, Value.ref 27, Value.int 16 0, Value.int 0 0, Value.ref 47] }
noncomputable def ob16_7 (P : Params) : Obj := { cls := Value.none, data := Data.fields #[] }
noncomputable def ob19_8 (P : Params) : Obj := fnR (Str.ofString "_wall") (Str.ofString "_wall") 0 0
noncomputable def ob23_9 (P : Params) : Obj := { cls := Value.type "builtin_function_or_method", data := Data.fields #[Value.builtin "type.__prepare__", Value.type "type"] }
noncomputable def ob24_10 (P : Params) : Obj := { cls := Value.type "dict", data := Data.dict #[{ hash := PyData.keyHash P (Str.ofString "__module__"), key := Value.str (Str.ofString "__module__") 203, val := Value.str (Str.ofString "emacs.errors") 194 }, { hash := PyData.keyHash P (Str.ofString "__qualname__"), key := Value.str (Str.ofString "__qualname__") 205, val := Value.str (Str.ofString "LispSignal") 204 }, { hash := PyData.keyHash P (Str.ofString "__firstlineno__"), key := Value.str (Str.ofString "__firstlineno__") 207, val := Value.int 5 206 }, { hash := PyData.keyHash P (Str.ofString "__init__"), key := Value.str (Str.ofString "__init__") 216, val := Value.ref 35 }, { hash := PyData.keyHash P (Str.ofString "__static_attributes__"), key := Value.str (Str.ofString "__static_attributes__") 219, val := Value.ref 36 }] 5 }
noncomputable def ob25_11 (P : Params) : Obj := { cls := Value.type "tuple", data := Data.seq #[] }
noncomputable def ob26_12 (P : Params) : Obj := { cls := Value.none, data := Data.fields #[Value.int 7 0, Value.int 4 0, Value.ref 34] }
noncomputable def ob27_13 (P : Params) : Obj := { cls := Value.type "code", data := Data.fields #[Value.str (Str.ofString "LispSignal") 198, Value.str (Str.ofString "LispSignal") 199, Value.str (Str.ofString "/claim/cut.py") 200, Value.int 5 0, Value.int 0 0, Value.int 0 0, Value.int 0 0, Value.int 0 0, Value.ref 25, Value.bool false, Value.int 181 0, Value.ref 26, Value.none, Value.none, Value.none, Value.none, Value.int 201 0, Value.int 5 0, Value.str (Str.ofString "/claim/cut.py") 202] }
noncomputable def ob28_14 (P : Params) : Obj := { cls := Value.type "frame", slots := #[some (Value.ref 27), some (Value.ref 3), some (Value.ref 24), none, some (Value.str (Str.ofString "emacs.errors") 194), none, some (Value.ref 0)] }
noncomputable def ob30_15 (P : Params) : Obj := { cls := Value.none, data := Data.fields #[] }
noncomputable def ob33_16 (P : Params) : Obj := fnR (Str.ofString "__init__") (Str.ofString "LispSignal.__init__") 2 0
noncomputable def ob40_17 (P : Params) : Obj := { cls := Value.type "super", data := Data.fields #[Value.ref 38, Value.ref 38, Value.ref 38] }
noncomputable def ob41_18 (P : Params) : Obj := { cls := Value.type "builtin_function_or_method", data := Data.fields #[Value.builtin "object.__init_subclass__", Value.ref 38] }
noncomputable def ob42_19 (P : Params) : Obj := { cls := Value.type "tuple", data := Data.seq #[] }
noncomputable def ob43_20 (P : Params) : Obj := { cls := Value.type "builtin_function_or_method", data := Data.fields #[Value.builtin "type.__prepare__", Value.type "type"] }
noncomputable def ob44_21 (P : Params) : Obj := { cls := Value.type "dict", data := Data.dict #[{ hash := PyData.keyHash P (Str.ofString "__module__"), key := Value.str (Str.ofString "__module__") 246, val := Value.str (Str.ofString "emacs.windows") 227 }, { hash := PyData.keyHash P (Str.ofString "__qualname__"), key := Value.str (Str.ofString "__qualname__") 248, val := Value.str (Str.ofString "Window") 247 }, { hash := PyData.keyHash P (Str.ofString "__firstlineno__"), key := Value.str (Str.ofString "__firstlineno__") 250, val := Value.int 16 249 }, { hash := PyData.keyHash P (Str.ofString "__init__"), key := Value.str (Str.ofString "__init__") 260, val := Value.ref 55 }, { hash := PyData.keyHash P (Str.ofString "size"), key := Value.str (Str.ofString "size") 268, val := Value.ref 62 }, { hash := PyData.keyHash P (Str.ofString "set_size"), key := Value.str (Str.ofString "set_size") 277, val := Value.ref 69 }, { hash := PyData.keyHash P (Str.ofString "place"), key := Value.str (Str.ofString "place") 285, val := Value.ref 76 }, { hash := PyData.keyHash P (Str.ofString "shown"), key := Value.str (Str.ofString "shown") 292, val := Value.ref 83 }, { hash := PyData.keyHash P (Str.ofString "show"), key := Value.str (Str.ofString "show") 300, val := Value.ref 90 }, { hash := PyData.keyHash P (Str.ofString "__static_attributes__"), key := Value.str (Str.ofString "__static_attributes__") 317, val := Value.ref 91 }] 10 }
noncomputable def ob45_22 (P : Params) : Obj := { cls := Value.type "tuple", data := Data.seq #[] }
noncomputable def ob46_23 (P : Params) : Obj := { cls := Value.none, data := Data.fields #[Value.int 18 0, Value.int 4 0, Value.ref 54, Value.int 36 0, Value.int 4 0, Value.ref 61, Value.int 39 0, Value.int 4 0, Value.ref 68, Value.int 45 0, Value.int 4 0, Value.ref 75, Value.int 48 0, Value.int 4 0, Value.ref 82, Value.int 51 0, Value.int 4 0, Value.ref 89] }
noncomputable def ob47_24 (P : Params) : Obj := { cls := Value.type "code", data := Data.fields #[Value.str (Str.ofString "Window") 241, Value.str (Str.ofString "Window") 242, Value.str (Str.ofString "/claim/cut.py") 243, Value.int 16 0, Value.int 0 0, Value.int 0 0, Value.int 0 0, Value.int 0 0, Value.ref 45, Value.bool false, Value.int 181 0, Value.ref 46, Value.none, Value.none, Value.none, Value.none, Value.int 244 0, Value.int 16 0, Value.str (Str.ofString "/claim/cut.py") 245] }
noncomputable def ob48_25 (P : Params) : Obj := { cls := Value.type "frame", slots := #[some (Value.ref 47), some (Value.ref 3), some (Value.ref 44), none, some (Value.str (Str.ofString "emacs.windows") 227), none, some (Value.ref 0)] }
noncomputable def ob50_26 (P : Params) : Obj := { cls := Value.none, data := Data.fields #[] }
noncomputable def ob53_27 (P : Params) : Obj := fnR (Str.ofString "__init__") (Str.ofString "Window.__init__") 9 0
noncomputable def ob57_28 (P : Params) : Obj := { cls := Value.none, data := Data.fields #[] }
noncomputable def ob60_29 (P : Params) : Obj := fnR (Str.ofString "size") (Str.ofString "Window.size") 9 1
noncomputable def ob64_30 (P : Params) : Obj := { cls := Value.none, data := Data.fields #[] }
noncomputable def ob67_31 (P : Params) : Obj := fnR (Str.ofString "set_size") (Str.ofString "Window.set_size") 9 2
noncomputable def ob71_32 (P : Params) : Obj := { cls := Value.none, data := Data.fields #[] }
noncomputable def ob74_33 (P : Params) : Obj := fnR (Str.ofString "place") (Str.ofString "Window.place") 9 3
noncomputable def ob78_34 (P : Params) : Obj := { cls := Value.none, data := Data.fields #[] }
noncomputable def ob81_35 (P : Params) : Obj := fnR (Str.ofString "shown") (Str.ofString "Window.shown") 9 4
noncomputable def ob85_36 (P : Params) : Obj := { cls := Value.none, data := Data.fields #[] }
noncomputable def ob88_37 (P : Params) : Obj := fnR (Str.ofString "show") (Str.ofString "Window.show") 9 5
noncomputable def ob96_38 (P : Params) : Obj := { cls := Value.type "super", data := Data.fields #[Value.ref 93, Value.ref 93, Value.ref 93] }
noncomputable def ob97_39 (P : Params) : Obj := { cls := Value.type "builtin_function_or_method", data := Data.fields #[Value.builtin "object.__init_subclass__", Value.ref 93] }
noncomputable def ob3_40 (P : Params) : Obj := { cls := Value.type "dict", data := Data.dict #[{ hash := PyData.keyHash P (Str.ofString "__name__"), key := Value.str (Str.ofString "__name__") 165, val := Value.str (Str.ofString "emacs.windows") 227 }, { hash := PyData.keyHash P (Str.ofString "__doc__"), key := Value.str (Str.ofString "__doc__") 166, val := Value.none }, { hash := PyData.keyHash P (Str.ofString "__package__"), key := Value.str (Str.ofString "__package__") 167, val := Value.none }, { hash := PyData.keyHash P (Str.ofString "__loader__"), key := Value.str (Str.ofString "__loader__") 168, val := Value.builtin "__main__.__loader__#opaque" }, { hash := PyData.keyHash P (Str.ofString "__spec__"), key := Value.str (Str.ofString "__spec__") 169, val := Value.none }, { hash := PyData.keyHash P (Str.ofString "__annotations__"), key := Value.str (Str.ofString "__annotations__") 170, val := Value.ref 6 }, { hash := PyData.keyHash P (Str.ofString "__builtins__"), key := Value.str (Str.ofString "__builtins__") 171, val := Value.ref 4 }, { hash := PyData.keyHash P (Str.ofString "__file__"), key := Value.str (Str.ofString "__file__") 173, val := Value.str (Str.ofString "/claim/cut.py") 172 }, { hash := PyData.keyHash P (Str.ofString "__cached__"), key := Value.str (Str.ofString "__cached__") 174, val := Value.none }, { hash := PyData.keyHash P (Str.ofString "_wall"), key := Value.str (Str.ofString "_wall") 193, val := Value.ref 21 }, { hash := PyData.keyHash P (Str.ofString "LispSignal"), key := Value.str (Str.ofString "LispSignal") 226, val := Value.ref 38 }, { hash := PyData.keyHash P (Str.ofString "LEAF"), key := Value.str (Str.ofString "LEAF") 230, val := Value.int 0 229 }, { hash := PyData.keyHash P (Str.ofString "COLUMN"), key := Value.str (Str.ofString "COLUMN") 232, val := Value.int 1 231 }, { hash := PyData.keyHash P (Str.ofString "ROW"), key := Value.str (Str.ofString "ROW") 234, val := Value.int 2 233 }, { hash := PyData.keyHash P (Str.ofString "WIDTH"), key := Value.str (Str.ofString "WIDTH") 236, val := Value.int 0 235 }, { hash := PyData.keyHash P (Str.ofString "HEIGHT"), key := Value.str (Str.ofString "HEIGHT") 238, val := Value.int 1 237 }, { hash := PyData.keyHash P (Str.ofString "Window"), key := Value.str (Str.ofString "Window") 324, val := Value.ref 93 }, { hash := PyData.keyHash P (Str.ofString "WindowTree"), key := Value.str (Str.ofString "WindowTree") 426, val := Value.ref 164 }] 18 }
noncomputable def ob12_41 (P : Params) : Obj := { cls := Value.none, data := Data.fields #[Value.int 1 0, Value.int 0 0, Value.ref 20, Value.int 5 0, Value.int 0 0, Value.ref 27, Value.int 16 0, Value.int 0 0, Value.ref 47, Value.int 53 0, Value.int 0 0, Value.ref 103] }
noncomputable def ob98_42 (P : Params) : Obj := { cls := Value.type "tuple", data := Data.seq #[] }
noncomputable def ob99_43 (P : Params) : Obj := { cls := Value.type "builtin_function_or_method", data := Data.fields #[Value.builtin "type.__prepare__", Value.type "type"] }
noncomputable def ob100_44 (P : Params) : Obj := { cls := Value.type "dict", data := Data.dict #[{ hash := PyData.keyHash P (Str.ofString "__module__"), key := Value.str (Str.ofString "__module__") 332, val := Value.str (Str.ofString "emacs.windows") 227 }, { hash := PyData.keyHash P (Str.ofString "__qualname__"), key := Value.str (Str.ofString "__qualname__") 334, val := Value.str (Str.ofString "WindowTree") 333 }, { hash := PyData.keyHash P (Str.ofString "__firstlineno__"), key := Value.str (Str.ofString "__firstlineno__") 336, val := Value.int 53 335 }, { hash := PyData.keyHash P (Str.ofString "__init__"), key := Value.str (Str.ofString "__init__") 351, val := Value.ref 112 }, { hash := PyData.keyHash P (Str.ofString "fresh"), key := Value.str (Str.ofString "fresh") 361, val := Value.ref 119 }, { hash := PyData.keyHash P (Str.ofString "window"), key := Value.str (Str.ofString "window") 370, val := Value.ref 126 }, { hash := PyData.keyHash P (Str.ofString "leaf"), key := Value.str (Str.ofString "leaf") 379, val := Value.ref 133 }, { hash := PyData.keyHash P (Str.ofString "touch"), key := Value.str (Str.ofString "touch") 387, val := Value.ref 140 }, { hash := PyData.keyHash P (Str.ofString "select"), key := Value.str (Str.ofString "select") 395, val := Value.ref 147 }, { hash := PyData.keyHash P (Str.ofString "least_leaf"), key := Value.str (Str.ofString "least_leaf") 403, val := Value.ref 154 }, { hash := PyData.keyHash P (Str.ofString "frame_size"), key := Value.str (Str.ofString "frame_size") 411, val := Value.ref 161 }, { hash := PyData.keyHash P (Str.ofString "__static_attributes__"), key := Value.str (Str.ofString "__static_attributes__") 419, val := Value.ref 162 }] 12 }
noncomputable def ob101_45 (P : Params) : Obj := { cls := Value.type "tuple", data := Data.seq #[] }
noncomputable def ob102_46 (P : Params) : Obj := { cls := Value.none, data := Data.fields #[Value.int 55 0, Value.int 4 0, Value.ref 111, Value.int 69 0, Value.int 4 0, Value.ref 118, Value.int 75 0, Value.int 4 0, Value.ref 125, Value.int 81 0, Value.int 4 0, Value.ref 132, Value.int 87 0, Value.int 4 0, Value.ref 139, Value.int 91 0, Value.int 4 0, Value.ref 146, Value.int 94 0, Value.int 4 0, Value.ref 153, Value.int 97 0, Value.int 4 0, Value.ref 160] }
noncomputable def ob103_47 (P : Params) : Obj := { cls := Value.type "code", data := Data.fields #[Value.str (Str.ofString "WindowTree") 327, Value.str (Str.ofString "WindowTree") 328, Value.str (Str.ofString "/claim/cut.py") 329, Value.int 53 0, Value.int 0 0, Value.int 0 0, Value.int 0 0, Value.int 0 0, Value.ref 101, Value.bool false, Value.int 181 0, Value.ref 102, Value.none, Value.none, Value.none, Value.none, Value.int 330 0, Value.int 53 0, Value.str (Str.ofString "/claim/cut.py") 331] }
noncomputable def ob104_48 (P : Params) : Obj := { cls := Value.type "frame", slots := #[some (Value.ref 103), some (Value.ref 3), some (Value.ref 100), none, some (Value.str (Str.ofString "emacs.windows") 227), none, some (Value.ref 0)] }
noncomputable def ob107_49 (P : Params) : Obj := { cls := Value.none, data := Data.fields #[] }
noncomputable def ob110_50 (P : Params) : Obj := fnR (Str.ofString "__init__") (Str.ofString "WindowTree.__init__") 10 0
noncomputable def ob114_51 (P : Params) : Obj := { cls := Value.none, data := Data.fields #[] }
noncomputable def ob117_52 (P : Params) : Obj := fnR (Str.ofString "fresh") (Str.ofString "WindowTree.fresh") 10 1
noncomputable def ob121_53 (P : Params) : Obj := { cls := Value.none, data := Data.fields #[] }
noncomputable def ob124_54 (P : Params) : Obj := fnR (Str.ofString "window") (Str.ofString "WindowTree.window") 10 2
noncomputable def ob128_55 (P : Params) : Obj := { cls := Value.none, data := Data.fields #[] }
noncomputable def ob131_56 (P : Params) : Obj := fnR (Str.ofString "leaf") (Str.ofString "WindowTree.leaf") 10 3
noncomputable def ob135_57 (P : Params) : Obj := { cls := Value.none, data := Data.fields #[] }
noncomputable def ob138_58 (P : Params) : Obj := fnR (Str.ofString "touch") (Str.ofString "WindowTree.touch") 10 4
noncomputable def ob142_59 (P : Params) : Obj := { cls := Value.none, data := Data.fields #[] }
noncomputable def ob145_60 (P : Params) : Obj := fnR (Str.ofString "select") (Str.ofString "WindowTree.select") 10 5
noncomputable def ob149_61 (P : Params) : Obj := { cls := Value.none, data := Data.fields #[] }
noncomputable def ob152_62 (P : Params) : Obj := fnR (Str.ofString "least_leaf") (Str.ofString "WindowTree.least_leaf") 10 6
noncomputable def ob156_63 (P : Params) : Obj := { cls := Value.none, data := Data.fields #[] }
noncomputable def ob159_64 (P : Params) : Obj := fnR (Str.ofString "frame_size") (Str.ofString "WindowTree.frame_size") 10 7
noncomputable def ob167_65 (P : Params) : Obj := { cls := Value.type "super", data := Data.fields #[Value.ref 164, Value.ref 164, Value.ref 164] }
noncomputable def ob168_66 (P : Params) : Obj := { cls := Value.type "builtin_function_or_method", data := Data.fields #[Value.builtin "object.__init_subclass__", Value.ref 164] }
noncomputable def ob3_67 (P : Params) : Obj := { cls := Value.type "dict", data := Data.dict #[{ hash := PyData.keyHash P (Str.ofString "__name__"), key := Value.str (Str.ofString "__name__") 165, val := Value.str (Str.ofString "emacs.sizes") 481 }, { hash := PyData.keyHash P (Str.ofString "__doc__"), key := Value.str (Str.ofString "__doc__") 166, val := Value.none }, { hash := PyData.keyHash P (Str.ofString "__package__"), key := Value.str (Str.ofString "__package__") 167, val := Value.none }, { hash := PyData.keyHash P (Str.ofString "__loader__"), key := Value.str (Str.ofString "__loader__") 168, val := Value.builtin "__main__.__loader__#opaque" }, { hash := PyData.keyHash P (Str.ofString "__spec__"), key := Value.str (Str.ofString "__spec__") 169, val := Value.none }, { hash := PyData.keyHash P (Str.ofString "__annotations__"), key := Value.str (Str.ofString "__annotations__") 170, val := Value.ref 6 }, { hash := PyData.keyHash P (Str.ofString "__builtins__"), key := Value.str (Str.ofString "__builtins__") 171, val := Value.ref 4 }, { hash := PyData.keyHash P (Str.ofString "__file__"), key := Value.str (Str.ofString "__file__") 173, val := Value.str (Str.ofString "/claim/cut.py") 172 }, { hash := PyData.keyHash P (Str.ofString "__cached__"), key := Value.str (Str.ofString "__cached__") 174, val := Value.none }, { hash := PyData.keyHash P (Str.ofString "_wall"), key := Value.str (Str.ofString "_wall") 193, val := Value.ref 21 }, { hash := PyData.keyHash P (Str.ofString "LispSignal"), key := Value.str (Str.ofString "LispSignal") 226, val := Value.ref 38 }, { hash := PyData.keyHash P (Str.ofString "LEAF"), key := Value.str (Str.ofString "LEAF") 230, val := Value.int 0 229 }, { hash := PyData.keyHash P (Str.ofString "COLUMN"), key := Value.str (Str.ofString "COLUMN") 232, val := Value.int 1 231 }, { hash := PyData.keyHash P (Str.ofString "ROW"), key := Value.str (Str.ofString "ROW") 234, val := Value.int 2 233 }, { hash := PyData.keyHash P (Str.ofString "WIDTH"), key := Value.str (Str.ofString "WIDTH") 236, val := Value.int 0 235 }, { hash := PyData.keyHash P (Str.ofString "HEIGHT"), key := Value.str (Str.ofString "HEIGHT") 238, val := Value.int 1 237 }, { hash := PyData.keyHash P (Str.ofString "Window"), key := Value.str (Str.ofString "Window") 324, val := Value.ref 93 }, { hash := PyData.keyHash P (Str.ofString "WindowTree"), key := Value.str (Str.ofString "WindowTree") 426, val := Value.ref 164 }, { hash := PyData.keyHash P (Str.ofString "along"), key := Value.str (Str.ofString "along") 433, val := Value.ref 175 }, { hash := PyData.keyHash P (Str.ofString "sort_along"), key := Value.str (Str.ofString "sort_along") 440, val := Value.ref 182 }, { hash := PyData.keyHash P (Str.ofString "leaves_under"), key := Value.str (Str.ofString "leaves_under") 451, val := Value.ref 189 }, { hash := PyData.keyHash P (Str.ofString "leaves"), key := Value.str (Str.ofString "leaves") 458, val := Value.ref 196 }, { hash := PyData.keyHash P (Str.ofString "windows_under"), key := Value.str (Str.ofString "windows_under") 469, val := Value.ref 203 }, { hash := PyData.keyHash P (Str.ofString "replace_child"), key := Value.str (Str.ofString "replace_child") 480, val := Value.ref 210 }, { hash := PyData.keyHash P (Str.ofString "least_size"), key := Value.str (Str.ofString "least_size") 488, val := Value.ref 215 }, { hash := PyData.keyHash P (Str.ofString "shares"), key := Value.str (Str.ofString "shares") 494, val := Value.ref 220 }, { hash := PyData.keyHash P (Str.ofString "set_tree_size"), key := Value.str (Str.ofString "set_tree_size") 500, val := Value.ref 225 }, { hash := PyData.keyHash P (Str.ofString "set_places"), key := Value.str (Str.ofString "set_places") 513, val := Value.ref 232 }, { hash := PyData.keyHash P (Str.ofString "movable"), key := Value.str (Str.ofString "movable") 524, val := Value.ref 239 }] 29 }
noncomputable def ob12_68 (P : Params) : Obj := { cls := Value.none, data := Data.fields #[Value.int 1 0, Value.int 0 0, Value.ref 20, Value.int 5 0, Value.int 0 0, Value.ref 27, Value.int 16 0, Value.int 0 0, Value.ref 47, Value.int 53 0, Value.int 0 0, Value.ref 103, Value.int 99 0, Value.int 0 0, Value.ref 174, Value.int 101 0, Value.int 0 0, Value.ref 181, Value.int 103 0, Value.int 0 0, Value.ref 188, Value.int 113 0, Value.int 0 0, Value.ref 195, Value.int 115 0, Value.int 0 0, Value.ref 202, Value.int 123 0, Value.int 0 0, Value.ref 209, Value.int 132 0, Value.int 0 0, Value.ref 214, Value.int 143 0, Value.int 0 0, Value.ref 219, Value.int 151 0, Value.int 0 0, Value.ref 224, Value.int 166 0, Value.int 0 0, Value.ref 231, Value.int 178 0, Value.int 0 0, Value.ref 238] }
noncomputable def ob170_69 (P : Params) : Obj := { cls := Value.none, data := Data.fields #[] }
noncomputable def ob173_70 (P : Params) : Obj := fnR (Str.ofString "along") (Str.ofString "along") 11 0
noncomputable def ob177_71 (P : Params) : Obj := { cls := Value.none, data := Data.fields #[] }
noncomputable def ob180_72 (P : Params) : Obj := fnR (Str.ofString "sort_along") (Str.ofString "sort_along") 12 0
noncomputable def ob184_73 (P : Params) : Obj := { cls := Value.none, data := Data.fields #[] }
noncomputable def ob187_74 (P : Params) : Obj := fnR (Str.ofString "leaves_under") (Str.ofString "leaves_under") 13 0
noncomputable def ob191_75 (P : Params) : Obj := { cls := Value.none, data := Data.fields #[] }
noncomputable def ob194_76 (P : Params) : Obj := fnR (Str.ofString "leaves") (Str.ofString "leaves") 14 0
noncomputable def ob198_77 (P : Params) : Obj := { cls := Value.none, data := Data.fields #[] }
noncomputable def ob201_78 (P : Params) : Obj := fnR (Str.ofString "windows_under") (Str.ofString "windows_under") 15 0
noncomputable def ob205_79 (P : Params) : Obj := { cls := Value.none, data := Data.fields #[] }
noncomputable def ob208_80 (P : Params) : Obj := fnR (Str.ofString "replace_child") (Str.ofString "replace_child") 16 0
noncomputable def ob212_81 (P : Params) : Obj := { cls := Value.none, data := Data.fields #[] }
noncomputable def ob213_82 (P : Params) : Obj := fnR (Str.ofString "least_size") (Str.ofString "least_size") 18 0
noncomputable def ob217_83 (P : Params) : Obj := { cls := Value.none, data := Data.fields #[] }
noncomputable def ob218_84 (P : Params) : Obj := fnR (Str.ofString "shares") (Str.ofString "shares") 19 0
noncomputable def ob222_85 (P : Params) : Obj := { cls := Value.none, data := Data.fields #[] }
noncomputable def ob223_86 (P : Params) : Obj := fnR (Str.ofString "set_tree_size") (Str.ofString "set_tree_size") 20 0
noncomputable def ob227_87 (P : Params) : Obj := { cls := Value.none, data := Data.fields #[] }
noncomputable def ob230_88 (P : Params) : Obj := fnR (Str.ofString "set_places") (Str.ofString "set_places") 21 0
noncomputable def ob234_89 (P : Params) : Obj := { cls := Value.none, data := Data.fields #[] }
noncomputable def ob237_90 (P : Params) : Obj := fnR (Str.ofString "movable") (Str.ofString "movable") 22 0
noncomputable def ob12_91 (P : Params) : Obj := { cls := Value.none, data := Data.fields #[Value.int 1 0, Value.int 0 0, Value.ref 20, Value.int 5 0, Value.int 0 0, Value.ref 27, Value.int 16 0, Value.int 0 0, Value.ref 47, Value.int 53 0, Value.int 0 0, Value.ref 103, Value.int 99 0, Value.int 0 0, Value.ref 174, Value.int 101 0, Value.int 0 0, Value.ref 181, Value.int 103 0, Value.int 0 0, Value.ref 188, Value.int 113 0, Value.int 0 0, Value.ref 195, Value.int 115 0, Value.int 0 0, Value.ref 202, Value.int 123 0, Value.int 0 0, Value.ref 209, Value.int 132 0, Value.int 0 0, Value.ref 214, Value.int 143 0, Value.int 0 0, Value.ref 219, Value.int 151 0, Value.int 0 0, Value.ref 224, Value.int 166 0, Value.int 0 0, Value.ref 231, Value.int 178 0, Value.int 0 0, Value.ref 238, Value.int 186 0, Value.int 0 0, Value.ref 245, Value.int 191 0, Value.int 0 0, Value.ref 250, Value.int 193 0, Value.int 0 0, Value.ref 257, Value.int 209 0, Value.int 0 0, Value.ref 264, Value.int 219 0, Value.int 0 0, Value.ref 271, Value.int 229 0, Value.int 0 0, Value.ref 278, Value.int 246 0, Value.int 0 0, Value.ref 285, Value.int 259 0, Value.int 0 0, Value.ref 292, Value.int 271 0, Value.int 0 0, Value.ref 299, Value.int 276 0, Value.int 0 0, Value.ref 306, Value.int 292 0, Value.int 0 0, Value.ref 311] }
noncomputable def ob241_92 (P : Params) : Obj := { cls := Value.none, data := Data.fields #[] }
noncomputable def ob244_93 (P : Params) : Obj := fnR (Str.ofString "givers") (Str.ofString "givers") 23 0
noncomputable def ob248_94 (P : Params) : Obj := { cls := Value.none, data := Data.fields #[] }
noncomputable def ob249_95 (P : Params) : Obj := fnR (Str.ofString "can_give") (Str.ofString "can_give") 24 0
noncomputable def ob253_96 (P : Params) : Obj := { cls := Value.none, data := Data.fields #[] }
noncomputable def ob256_97 (P : Params) : Obj := fnR (Str.ofString "resize") (Str.ofString "resize") 25 0
noncomputable def ob260_98 (P : Params) : Obj := { cls := Value.none, data := Data.fields #[] }
noncomputable def ob263_99 (P : Params) : Obj := fnR (Str.ofString "split_parts") (Str.ofString "split_parts") 27 0
noncomputable def ob267_100 (P : Params) : Obj := { cls := Value.none, data := Data.fields #[] }
noncomputable def ob270_101 (P : Params) : Obj := fnR (Str.ofString "combined") (Str.ofString "combined") 28 0
noncomputable def ob274_102 (P : Params) : Obj := { cls := Value.none, data := Data.fields #[] }
noncomputable def ob277_103 (P : Params) : Obj := fnR (Str.ofString "split") (Str.ofString "split") 29 0
noncomputable def ob281_104 (P : Params) : Obj := { cls := Value.none, data := Data.fields #[] }
noncomputable def ob284_105 (P : Params) : Obj := fnR (Str.ofString "joined") (Str.ofString "joined") 30 0
noncomputable def ob288_106 (P : Params) : Obj := { cls := Value.none, data := Data.fields #[] }
noncomputable def ob291_107 (P : Params) : Obj := fnR (Str.ofString "enlarge") (Str.ofString "enlarge") 31 0
noncomputable def ob295_108 (P : Params) : Obj := { cls := Value.none, data := Data.fields #[] }
noncomputable def ob298_109 (P : Params) : Obj := fnR (Str.ofString "_law_draw") (Str.ofString "_law_draw") 33 0
noncomputable def ob302_110 (P : Params) : Obj := { cls := Value.none, data := Data.fields #[] }
noncomputable def ob305_111 (P : Params) : Obj := fnR (Str.ofString "_law_taken") (Str.ofString "_law_taken") 34 0
noncomputable def ob309_112 (P : Params) : Obj := { cls := Value.none, data := Data.fields #[] }
noncomputable def ob310_113 (P : Params) : Obj := fnR (Str.ofString "law") (Str.ofString "law") 35 0
noncomputable def tr_b (P : Params) : BT := (.node (boot_o_0 P) (.node (boot_o_1 P) (.node (boot_o_3 P) (.node (boot_o_7 P) .nil .nil) (.node (ob11_1 P) .nil .nil)) (.node (boot_o_5 P) (.node (boot_o_9 P) .nil .nil) (.node (ob13_3 P) .nil .nil))) (.node (boot_o_2 P) (.node (boot_o_4 P) (.node (boot_o_8 P) .nil .nil) (.node (ob12_2 P) .nil .nil)) (.node (boot_o_6 P) (.node (boot_o_10 P) .nil .nil) (.node (ob14_4 P) .nil .nil))))
noncomputable def tr_p9 (P : Params) : BT := (.node (boot_o_0 P) (.node (boot_o_1 P) (.node (ob3_5 P) (.node (boot_o_7 P) (.node (hob P 2) (.node (hob P 9) (.node (hob P 27) .nil .nil) (.node (hob P 51) .nil .nil)) (.node (ob47_24 P) (.node (hob P 38) .nil .nil) .nil)) (.node (ob23_9 P) (.node (hob P 16) (.node (ob71_32 P) .nil .nil) .nil) (.node (hob P 21) (.node (hob P 44) .nil .nil) .nil))) (.node (ob11_1 P) (.node (ob19_8 P) (.node (hob P 12) (.node (ob67_31 P) .nil .nil) .nil) (.node (hob P 18) (.node (hob P 41) .nil .nil) .nil)) (.node (ob27_13 P) (.node (ob43_20 P) (.node (hob P 35) .nil .nil) .nil) (.node (hob P 24) (.node (hob P 47) .nil .nil) .nil)))) (.node (boot_o_5 P) (.node (boot_o_9 P) (.node (hob P 3) (.node (ob33_16 P) (.node (hob P 28) .nil .nil) (.node (ob97_39 P) .nil .nil)) (.node (hob P 17) (.node (ob81_35 P) .nil .nil) .nil)) (.node (ob25_11 P) (.node (ob41_18 P) (.node (hob P 34) .nil .nil) .nil) (.node (ob57_28 P) (.node (hob P 45) .nil .nil) .nil))) (.node (ob13_3 P) (.node (hob P 6) (.node (hob P 14) (.node (hob P 31) .nil .nil) .nil) (.node (ob53_27 P) (.node (ob85_36 P) .nil .nil) .nil)) (.node (hob P 8) (.node (ob45_22 P) (.node (hob P 37) .nil .nil) .nil) (.node (hob P 25) (.node (hob P 49) .nil .nil) .nil))))) (.node (hob P 0) (.node (boot_o_4 P) (.node (boot_o_8 P) (.node (ob16_7 P) (.node (hob P 10) (.node (ob64_30 P) .nil .nil) (.node (ob96_38 P) .nil .nil)) (.node (ob48_25 P) (.node (hob P 39) .nil .nil) .nil)) (.node (ob24_10 P) (.node (ob40_17 P) (.node (hob P 33) .nil .nil) .nil) (.node (hob P 22) (.node (ob88_37 P) .nil .nil) .nil))) (.node (ob12_6 P) (.node (hob P 5) (.node (hob P 13) (.node (hob P 30) .nil .nil) .nil) (.node (hob P 19) (.node (hob P 42) .nil .nil) .nil)) (.node (ob28_14 P) (.node (ob44_21 P) (.node (hob P 36) .nil .nil) .nil) (.node (ob60_29 P) (.node (hob P 48) .nil .nil) .nil)))) (.node (boot_o_6 P) (.node (boot_o_10 P) (.node (hob P 4) (.node (hob P 11) (.node (hob P 29) .nil .nil) .nil) (.node (ob50_26 P) (.node (hob P 40) .nil .nil) .nil)) (.node (ob26_12 P) (.node (ob42_19 P) (.node (ob74_33 P) .nil .nil) .nil) (.node (hob P 23) (.node (hob P 46) .nil .nil) .nil))) (.node (ob14_4 P) (.node (hob P 7) (.node (hob P 15) (.node (hob P 32) .nil .nil) .nil) (.node (hob P 20) (.node (hob P 43) .nil .nil) .nil)) (.node (ob30_15 P) (.node (ob46_23 P) (.node (ob78_34 P) .nil .nil) .nil) (.node (hob P 26) (.node (hob P 50) .nil .nil) .nil))))))
noncomputable def tr_p10 (P : Params) : BT := (.node (boot_o_0 P) (.node (boot_o_1 P) (.node (ob3_40 P) (.node (boot_o_7 P) (.node (hob P 2) (.node (hob P 9) (.node (hob P 27) (.node (hob P 68) .nil .nil) .nil) (.node (hob P 51) (.node (ob159_64 P) .nil .nil) .nil)) (.node (ob47_24 P) (.node (hob P 38) (.node (hob P 79) .nil .nil) .nil) (.node (hob P 56) .nil .nil))) (.node (ob23_9 P) (.node (hob P 16) (.node (ob71_32 P) (.node (ob135_57 P) .nil .nil) .nil) (.node (ob103_47 P) (.node (ob167_65 P) .nil .nil) .nil)) (.node (hob P 21) (.node (hob P 44) (.node (hob P 85) .nil .nil) .nil) (.node (hob P 62) .nil .nil)))) (.node (ob11_1 P) (.node (ob19_8 P) (.node (hob P 12) (.node (ob67_31 P) (.node (ob131_56 P) .nil .nil) .nil) (.node (ob99_43 P) (.node (hob P 94) .nil .nil) .nil)) (.node (hob P 18) (.node (hob P 41) (.node (hob P 82) .nil .nil) .nil) (.node (hob P 59) .nil .nil))) (.node (ob27_13 P) (.node (ob43_20 P) (.node (hob P 35) (.node (hob P 76) .nil .nil) .nil) (.node (ob107_49 P) .nil .nil)) (.node (hob P 24) (.node (hob P 47) (.node (hob P 88) .nil .nil) .nil) (.node (hob P 65) .nil .nil))))) (.node (boot_o_5 P) (.node (boot_o_9 P) (.node (hob P 3) (.node (ob33_16 P) (.node (hob P 28) (.node (hob P 69) .nil .nil) .nil) (.node (ob97_39 P) (.node (hob P 92) .nil .nil) .nil)) (.node (hob P 17) (.node (ob81_35 P) (.node (ob145_60 P) .nil .nil) .nil) (.node (hob P 58) .nil .nil))) (.node (ob25_11 P) (.node (ob41_18 P) (.node (hob P 34) (.node (hob P 75) .nil .nil) .nil) (.node (hob P 52) .nil .nil)) (.node (ob57_28 P) (.node (hob P 45) (.node (hob P 86) .nil .nil) .nil) (.node (ob121_53 P) .nil .nil)))) (.node (ob13_3 P) (.node (hob P 6) (.node (hob P 14) (.node (hob P 31) (.node (hob P 72) .nil .nil) .nil) (.node (ob101_45 P) (.node (hob P 96) .nil .nil) .nil)) (.node (ob53_27 P) (.node (ob85_36 P) (.node (ob149_61 P) .nil .nil) .nil) (.node (ob117_52 P) .nil .nil))) (.node (hob P 8) (.node (ob45_22 P) (.node (hob P 37) (.node (hob P 78) .nil .nil) .nil) (.node (hob P 55) .nil .nil)) (.node (hob P 25) (.node (hob P 49) (.node (hob P 89) .nil .nil) .nil) (.node (hob P 66) .nil .nil)))))) (.node (hob P 0) (.node (boot_o_4 P) (.node (boot_o_8 P) (.node (ob16_7 P) (.node (hob P 10) (.node (ob64_30 P) (.node (ob128_55 P) .nil .nil) .nil) (.node (ob96_38 P) (.node (hob P 91) .nil .nil) .nil)) (.node (ob48_25 P) (.node (hob P 39) (.node (hob P 80) .nil .nil) .nil) (.node (hob P 57) .nil .nil))) (.node (ob24_10 P) (.node (ob40_17 P) (.node (hob P 33) (.node (hob P 74) .nil .nil) .nil) (.node (ob104_48 P) (.node (ob168_66 P) .nil .nil) .nil)) (.node (hob P 22) (.node (ob88_37 P) (.node (ob152_62 P) .nil .nil) .nil) (.node (hob P 63) .nil .nil)))) (.node (ob12_41 P) (.node (hob P 5) (.node (hob P 13) (.node (hob P 30) (.node (hob P 71) .nil .nil) .nil) (.node (ob100_44 P) (.node (hob P 95) .nil .nil) .nil)) (.node (hob P 19) (.node (hob P 42) (.node (hob P 83) .nil .nil) .nil) (.node (hob P 60) .nil .nil))) (.node (ob28_14 P) (.node (ob44_21 P) (.node (hob P 36) (.node (hob P 77) .nil .nil) .nil) (.node (hob P 54) .nil .nil)) (.node (ob60_29 P) (.node (hob P 48) (.node (ob156_63 P) .nil .nil) .nil) (.node (ob124_54 P) .nil .nil))))) (.node (boot_o_6 P) (.node (boot_o_10 P) (.node (hob P 4) (.node (hob P 11) (.node (hob P 29) (.node (hob P 70) .nil .nil) .nil) (.node (ob98_42 P) (.node (hob P 93) .nil .nil) .nil)) (.node (ob50_26 P) (.node (hob P 40) (.node (hob P 81) .nil .nil) .nil) (.node (ob114_51 P) .nil .nil))) (.node (ob26_12 P) (.node (ob42_19 P) (.node (ob74_33 P) (.node (ob138_58 P) .nil .nil) .nil) (.node (hob P 53) .nil .nil)) (.node (hob P 23) (.node (hob P 46) (.node (hob P 87) .nil .nil) .nil) (.node (hob P 64) .nil .nil)))) (.node (ob14_4 P) (.node (hob P 7) (.node (hob P 15) (.node (hob P 32) (.node (hob P 73) .nil .nil) .nil) (.node (ob102_46 P) (.node (hob P 97) .nil .nil) .nil)) (.node (hob P 20) (.node (hob P 43) (.node (hob P 84) .nil .nil) .nil) (.node (hob P 61) .nil .nil))) (.node (ob30_15 P) (.node (ob46_23 P) (.node (ob78_34 P) (.node (ob142_59 P) .nil .nil) .nil) (.node (ob110_50 P) .nil .nil)) (.node (hob P 26) (.node (hob P 50) (.node (hob P 90) .nil .nil) .nil) (.node (hob P 67) .nil .nil)))))))
noncomputable def tr_p22 (P : Params) : BT := (.node (boot_o_0 P) (.node (boot_o_1 P) (.node (ob3_67 P) (.node (boot_o_7 P) (.node (hob P 2) (.node (hob P 9) (.node (hob P 27) (.node (hob P 68) .nil .nil) (.node (ob191_75 P) .nil .nil)) (.node (hob P 51) (.node (ob159_64 P) .nil .nil) (.node (ob223_86 P) .nil .nil))) (.node (ob47_24 P) (.node (hob P 38) (.node (hob P 79) .nil .nil) (.node (hob P 125) .nil .nil)) (.node (hob P 56) (.node (hob P 102) .nil .nil) (.node (hob P 146) .nil .nil)))) (.node (ob23_9 P) (.node (hob P 16) (.node (ob71_32 P) (.node (ob135_57 P) .nil .nil) (.node (hob P 119) .nil .nil)) (.node (ob103_47 P) (.node (ob167_65 P) .nil .nil) (.node (hob P 140) .nil .nil))) (.node (hob P 21) (.node (hob P 44) (.node (hob P 85) .nil .nil) (.node (hob P 130) .nil .nil)) (.node (hob P 62) (.node (hob P 108) .nil .nil) .nil)))) (.node (ob11_1 P) (.node (ob19_8 P) (.node (hob P 12) (.node (ob67_31 P) (.node (ob131_56 P) .nil .nil) (.node (hob P 116) .nil .nil)) (.node (ob99_43 P) (.node (hob P 94) .nil .nil) (.node (ob227_87 P) .nil .nil))) (.node (hob P 18) (.node (hob P 41) (.node (hob P 82) .nil .nil) (.node (hob P 128) .nil .nil)) (.node (hob P 59) (.node (hob P 105) .nil .nil) .nil))) (.node (ob27_13 P) (.node (ob43_20 P) (.node (hob P 35) (.node (hob P 76) .nil .nil) (.node (hob P 122) .nil .nil)) (.node (ob107_49 P) (.node (hob P 99) .nil .nil) (.node (hob P 143) .nil .nil))) (.node (hob P 24) (.node (hob P 47) (.node (hob P 88) .nil .nil) (.node (hob P 132) .nil .nil)) (.node (hob P 65) (.node (ob187_74 P) .nil .nil) .nil))))) (.node (boot_o_5 P) (.node (boot_o_9 P) (.node (hob P 3) (.node (ob33_16 P) (.node (hob P 28) (.node (hob P 69) .nil .nil) (.node (hob P 115) .nil .nil)) (.node (ob97_39 P) (.node (hob P 92) .nil .nil) (.node (hob P 136) .nil .nil))) (.node (hob P 17) (.node (ob81_35 P) (.node (ob145_60 P) .nil .nil) (.node (hob P 126) .nil .nil)) (.node (hob P 58) (.node (ob177_71 P) .nil .nil) .nil))) (.node (ob25_11 P) (.node (ob41_18 P) (.node (hob P 34) (.node (hob P 75) .nil .nil) (.node (ob201_78 P) .nil .nil)) (.node (hob P 52) (.node (hob P 98) .nil .nil) (.node (hob P 142) .nil .nil))) (.node (ob57_28 P) (.node (hob P 45) (.node (hob P 86) .nil .nil) (.node (ob217_83 P) .nil .nil)) (.node (ob121_53 P) (.node (hob P 109) .nil .nil) .nil)))) (.node (ob13_3 P) (.node (hob P 6) (.node (hob P 14) (.node (hob P 31) (.node (hob P 72) .nil .nil) (.node (hob P 118) .nil .nil)) (.node (ob101_45 P) (.node (hob P 96) .nil .nil) (.node (hob P 139) .nil .nil))) (.node (ob53_27 P) (.node (ob85_36 P) (.node (ob149_61 P) .nil .nil) (.node (ob213_82 P) .nil .nil)) (.node (ob117_52 P) (.node (hob P 106) .nil .nil) .nil))) (.node (hob P 8) (.node (ob45_22 P) (.node (hob P 37) (.node (hob P 78) .nil .nil) (.node (ob205_79 P) .nil .nil)) (.node (hob P 55) (.node (ob173_70 P) .nil .nil) (.node (ob237_90 P) .nil .nil))) (.node (hob P 25) (.node (hob P 49) (.node (hob P 89) .nil .nil) (.node (hob P 134) .nil .nil)) (.node (hob P 66) (.node (hob P 112) .nil .nil) .nil)))))) (.node (hob P 0) (.node (boot_o_4 P) (.node (boot_o_8 P) (.node (ob16_7 P) (.node (hob P 10) (.node (ob64_30 P) (.node (ob128_55 P) .nil .nil) (.node (hob P 114) .nil .nil)) (.node (ob96_38 P) (.node (hob P 91) .nil .nil) (.node (hob P 135) .nil .nil))) (.node (ob48_25 P) (.node (hob P 39) (.node (hob P 80) .nil .nil) (.node (ob208_80 P) .nil .nil)) (.node (hob P 57) (.node (hob P 103) .nil .nil) .nil))) (.node (ob24_10 P) (.node (ob40_17 P) (.node (hob P 33) (.node (hob P 74) .nil .nil) (.node (hob P 120) .nil .nil)) (.node (ob104_48 P) (.node (ob168_66 P) .nil .nil) (.node (hob P 141) .nil .nil))) (.node (hob P 22) (.node (ob88_37 P) (.node (ob152_62 P) .nil .nil) (.node (hob P 131) .nil .nil)) (.node (hob P 63) (.node (ob184_73 P) .nil .nil) .nil)))) (.node (ob12_68 P) (.node (hob P 5) (.node (hob P 13) (.node (hob P 30) (.node (hob P 71) .nil .nil) (.node (hob P 117) .nil .nil)) (.node (ob100_44 P) (.node (hob P 95) .nil .nil) (.node (hob P 138) .nil .nil))) (.node (hob P 19) (.node (hob P 42) (.node (hob P 83) .nil .nil) (.node (ob212_81 P) .nil .nil)) (.node (hob P 60) (.node (ob180_72 P) .nil .nil) .nil))) (.node (ob28_14 P) (.node (ob44_21 P) (.node (hob P 36) (.node (hob P 77) .nil .nil) (.node (hob P 123) .nil .nil)) (.node (hob P 54) (.node (hob P 100) .nil .nil) (.node (hob P 144) .nil .nil))) (.node (ob60_29 P) (.node (hob P 48) (.node (ob156_63 P) .nil .nil) (.node (hob P 133) .nil .nil)) (.node (ob124_54 P) (.node (hob P 111) .nil .nil) .nil))))) (.node (boot_o_6 P) (.node (boot_o_10 P) (.node (hob P 4) (.node (hob P 11) (.node (hob P 29) (.node (hob P 70) .nil .nil) (.node (ob194_76 P) .nil .nil)) (.node (ob98_42 P) (.node (hob P 93) .nil .nil) (.node (hob P 137) .nil .nil))) (.node (ob50_26 P) (.node (hob P 40) (.node (hob P 81) .nil .nil) (.node (hob P 127) .nil .nil)) (.node (ob114_51 P) (.node (hob P 104) .nil .nil) .nil))) (.node (ob26_12 P) (.node (ob42_19 P) (.node (ob74_33 P) (.node (ob138_58 P) .nil .nil) (.node (hob P 121) .nil .nil)) (.node (hob P 53) (.node (ob170_69 P) .nil .nil) (.node (ob234_89 P) .nil .nil))) (.node (hob P 23) (.node (hob P 46) (.node (hob P 87) .nil .nil) (.node (ob218_84 P) .nil .nil)) (.node (hob P 64) (.node (hob P 110) .nil .nil) .nil)))) (.node (ob14_4 P) (.node (hob P 7) (.node (hob P 15) (.node (hob P 32) (.node (hob P 73) .nil .nil) (.node (ob198_77 P) .nil .nil)) (.node (ob102_46 P) (.node (hob P 97) .nil .nil) (.node (ob230_88 P) .nil .nil))) (.node (hob P 20) (.node (hob P 43) (.node (hob P 84) .nil .nil) (.node (hob P 129) .nil .nil)) (.node (hob P 61) (.node (hob P 107) .nil .nil) .nil))) (.node (ob30_15 P) (.node (ob46_23 P) (.node (ob78_34 P) (.node (ob142_59 P) .nil .nil) (.node (hob P 124) .nil .nil)) (.node (ob110_50 P) (.node (hob P 101) .nil .nil) (.node (hob P 145) .nil .nil))) (.node (hob P 26) (.node (hob P 50) (.node (hob P 90) .nil .nil) (.node (ob222_85 P) .nil .nil)) (.node (hob P 67) (.node (hob P 113) .nil .nil) .nil)))))))
noncomputable def tr_fin (P : Params) : BT := (.node (boot_o_0 P) (.node (boot_o_1 P) (.node (hob P 1) (.node (boot_o_7 P) (.node (hob P 2) (.node (hob P 9) (.node (hob P 27) (.node (hob P 68) (.node (hob P 157) .nil .nil) .nil) (.node (ob191_75 P) .nil .nil)) (.node (hob P 51) (.node (ob159_64 P) (.node (hob P 180) .nil .nil) .nil) (.node (ob223_86 P) .nil .nil))) (.node (ob47_24 P) (.node (hob P 38) (.node (hob P 79) (.node (hob P 168) .nil .nil) .nil) (.node (hob P 125) .nil .nil)) (.node (hob P 56) (.node (hob P 102) (.node (hob P 191) .nil .nil) .nil) (.node (hob P 146) .nil .nil)))) (.node (ob23_9 P) (.node (hob P 16) (.node (ob71_32 P) (.node (ob135_57 P) (.node (ob263_99 P) .nil .nil) .nil) (.node (hob P 119) .nil .nil)) (.node (ob103_47 P) (.node (ob167_65 P) (.node (ob295_108 P) .nil .nil) .nil) (.node (hob P 140) .nil .nil))) (.node (hob P 21) (.node (hob P 44) (.node (hob P 85) (.node (hob P 174) .nil .nil) .nil) (.node (hob P 130) .nil .nil)) (.node (hob P 62) (.node (hob P 108) (.node (hob P 196) .nil .nil) .nil) (.node (hob P 152) .nil .nil))))) (.node (ob11_1 P) (.node (ob19_8 P) (.node (hob P 12) (.node (ob67_31 P) (.node (ob131_56 P) (.node (hob P 160) .nil .nil) .nil) (.node (hob P 116) .nil .nil)) (.node (ob99_43 P) (.node (hob P 94) (.node (ob291_107 P) .nil .nil) .nil) (.node (ob227_87 P) .nil .nil))) (.node (hob P 18) (.node (hob P 41) (.node (hob P 82) (.node (hob P 171) .nil .nil) .nil) (.node (hob P 128) .nil .nil)) (.node (hob P 59) (.node (hob P 105) (.node (hob P 194) .nil .nil) .nil) (.node (hob P 149) .nil .nil)))) (.node (ob27_13 P) (.node (ob43_20 P) (.node (hob P 35) (.node (hob P 76) (.node (ob267_100 P) .nil .nil) .nil) (.node (hob P 122) .nil .nil)) (.node (ob107_49 P) (.node (hob P 99) (.node (hob P 188) .nil .nil) .nil) (.node (hob P 143) .nil .nil))) (.node (hob P 24) (.node (hob P 47) (.node (hob P 88) (.node (hob P 177) .nil .nil) .nil) (.node (hob P 132) .nil .nil)) (.node (hob P 65) (.node (ob187_74 P) .nil .nil) (.node (hob P 154) .nil .nil)))))) (.node (boot_o_5 P) (.node (boot_o_9 P) (.node (hob P 3) (.node (ob33_16 P) (.node (hob P 28) (.node (hob P 69) (.node (hob P 158) .nil .nil) .nil) (.node (hob P 115) .nil .nil)) (.node (ob97_39 P) (.node (hob P 92) (.node (hob P 181) .nil .nil) .nil) (.node (hob P 136) .nil .nil))) (.node (hob P 17) (.node (ob81_35 P) (.node (ob145_60 P) (.node (hob P 170) .nil .nil) .nil) (.node (hob P 126) .nil .nil)) (.node (hob P 58) (.node (ob177_71 P) (.node (ob305_111 P) .nil .nil) .nil) (.node (ob241_92 P) .nil .nil)))) (.node (ob25_11 P) (.node (ob41_18 P) (.node (hob P 34) (.node (hob P 75) (.node (hob P 164) .nil .nil) .nil) (.node (ob201_78 P) .nil .nil)) (.node (hob P 52) (.node (hob P 98) (.node (hob P 187) .nil .nil) .nil) (.node (hob P 142) .nil .nil))) (.node (ob57_28 P) (.node (hob P 45) (.node (hob P 86) (.node (ob281_104 P) .nil .nil) .nil) (.node (ob217_83 P) .nil .nil)) (.node (ob121_53 P) (.node (hob P 109) .nil .nil) (.node (ob249_95 P) .nil .nil))))) (.node (ob13_3 P) (.node (hob P 6) (.node (hob P 14) (.node (hob P 31) (.node (hob P 72) (.node (hob P 161) .nil .nil) .nil) (.node (hob P 118) .nil .nil)) (.node (ob101_45 P) (.node (hob P 96) (.node (hob P 184) .nil .nil) .nil) (.node (hob P 139) .nil .nil))) (.node (ob53_27 P) (.node (ob85_36 P) (.node (ob149_61 P) (.node (ob277_103 P) .nil .nil) .nil) (.node (ob213_82 P) .nil .nil)) (.node (ob117_52 P) (.node (hob P 106) (.node (ob309_112 P) .nil .nil) .nil) (.node (hob P 150) .nil .nil)))) (.node (hob P 8) (.node (ob45_22 P) (.node (hob P 37) (.node (hob P 78) (.node (hob P 167) .nil .nil) .nil) (.node (ob205_79 P) .nil .nil)) (.node (hob P 55) (.node (ob173_70 P) (.node (hob P 190) .nil .nil) .nil) (.node (ob237_90 P) .nil .nil))) (.node (hob P 25) (.node (hob P 49) (.node (hob P 89) (.node (hob P 178) .nil .nil) .nil) (.node (hob P 134) .nil .nil)) (.node (hob P 66) (.node (hob P 112) .nil .nil) (.node (ob253_96 P) .nil .nil))))))) (.node (hob P 0) (.node (boot_o_4 P) (.node (boot_o_8 P) (.node (ob16_7 P) (.node (hob P 10) (.node (ob64_30 P) (.node (ob128_55 P) (.node (ob256_97 P) .nil .nil) .nil) (.node (hob P 114) .nil .nil)) (.node (ob96_38 P) (.node (hob P 91) (.node (ob288_106 P) .nil .nil) .nil) (.node (hob P 135) .nil .nil))) (.node (ob48_25 P) (.node (hob P 39) (.node (hob P 80) (.node (hob P 169) .nil .nil) .nil) (.node (ob208_80 P) .nil .nil)) (.node (hob P 57) (.node (hob P 103) (.node (hob P 192) .nil .nil) .nil) (.node (hob P 147) .nil .nil)))) (.node (ob24_10 P) (.node (ob40_17 P) (.node (hob P 33) (.node (hob P 74) (.node (hob P 163) .nil .nil) .nil) (.node (hob P 120) .nil .nil)) (.node (ob104_48 P) (.node (ob168_66 P) (.node (hob P 186) .nil .nil) .nil) (.node (hob P 141) .nil .nil))) (.node (hob P 22) (.node (ob88_37 P) (.node (ob152_62 P) (.node (hob P 175) .nil .nil) .nil) (.node (hob P 131) .nil .nil)) (.node (hob P 63) (.node (ob184_73 P) (.node (hob P 197) .nil .nil) .nil) (.node (ob248_94 P) .nil .nil))))) (.node (ob12_91 P) (.node (hob P 5) (.node (hob P 13) (.node (hob P 30) (.node (hob P 71) (.node (ob260_98 P) .nil .nil) .nil) (.node (hob P 117) .nil .nil)) (.node (ob100_44 P) (.node (hob P 95) (.node (hob P 183) .nil .nil) .nil) (.node (hob P 138) .nil .nil))) (.node (hob P 19) (.node (hob P 42) (.node (hob P 83) (.node (hob P 172) .nil .nil) .nil) (.node (ob212_81 P) .nil .nil)) (.node (hob P 60) (.node (ob180_72 P) (.node (hob P 195) .nil .nil) .nil) (.node (ob244_93 P) .nil .nil)))) (.node (ob28_14 P) (.node (ob44_21 P) (.node (hob P 36) (.node (hob P 77) (.node (hob P 166) .nil .nil) .nil) (.node (hob P 123) .nil .nil)) (.node (hob P 54) (.node (hob P 100) (.node (hob P 189) .nil .nil) .nil) (.node (hob P 144) .nil .nil))) (.node (ob60_29 P) (.node (hob P 48) (.node (ob156_63 P) (.node (ob284_105 P) .nil .nil) .nil) (.node (hob P 133) .nil .nil)) (.node (ob124_54 P) (.node (hob P 111) .nil .nil) (.node (hob P 155) .nil .nil)))))) (.node (boot_o_6 P) (.node (boot_o_10 P) (.node (hob P 4) (.node (hob P 11) (.node (hob P 29) (.node (hob P 70) (.node (hob P 159) .nil .nil) .nil) (.node (ob194_76 P) .nil .nil)) (.node (ob98_42 P) (.node (hob P 93) (.node (hob P 182) .nil .nil) .nil) (.node (hob P 137) .nil .nil))) (.node (ob50_26 P) (.node (hob P 40) (.node (hob P 81) (.node (ob274_102 P) .nil .nil) .nil) (.node (hob P 127) .nil .nil)) (.node (ob114_51 P) (.node (hob P 104) (.node (hob P 193) .nil .nil) .nil) (.node (hob P 148) .nil .nil)))) (.node (ob26_12 P) (.node (ob42_19 P) (.node (ob74_33 P) (.node (ob138_58 P) (.node (hob P 165) .nil .nil) .nil) (.node (hob P 121) .nil .nil)) (.node (hob P 53) (.node (ob170_69 P) (.node (ob298_109 P) .nil .nil) .nil) (.node (ob234_89 P) .nil .nil))) (.node (hob P 23) (.node (hob P 46) (.node (hob P 87) (.node (hob P 176) .nil .nil) .nil) (.node (ob218_84 P) .nil .nil)) (.node (hob P 64) (.node (hob P 110) .nil .nil) (.node (hob P 153) .nil .nil))))) (.node (ob14_4 P) (.node (hob P 7) (.node (hob P 15) (.node (hob P 32) (.node (hob P 73) (.node (hob P 162) .nil .nil) .nil) (.node (ob198_77 P) .nil .nil)) (.node (ob102_46 P) (.node (hob P 97) (.node (hob P 185) .nil .nil) .nil) (.node (ob230_88 P) .nil .nil))) (.node (hob P 20) (.node (hob P 43) (.node (hob P 84) (.node (hob P 173) .nil .nil) .nil) (.node (hob P 129) .nil .nil)) (.node (hob P 61) (.node (hob P 107) (.node (ob310_113 P) .nil .nil) .nil) (.node (hob P 151) .nil .nil)))) (.node (ob30_15 P) (.node (ob46_23 P) (.node (ob78_34 P) (.node (ob142_59 P) (.node (ob270_101 P) .nil .nil) .nil) (.node (hob P 124) .nil .nil)) (.node (ob110_50 P) (.node (hob P 101) (.node (ob302_110 P) .nil .nil) .nil) (.node (hob P 145) .nil .nil))) (.node (hob P 26) (.node (hob P 50) (.node (hob P 90) (.node (hob P 179) .nil .nil) .nil) (.node (ob222_85 P) .nil .nil)) (.node (hob P 67) (.node (hob P 113) .nil .nil) (.node (hob P 156) .nil .nil))))))))
noncomputable def envM : Env := { scope := lawP.main.scope, locals := mainNs, globals := mainNs, cells := [], code := .ref 13, frame := some 14 }
noncomputable def bM : List Stmt := behindTheImports lawP
noncomputable def cM : Code := .body bM envM
noncomputable def frM : List Frame := [topFrame ⟨0, 0, 0, 0⟩]
noncomputable def stA : List Stmt := bM.take 10
noncomputable def stB : List Stmt := (bM.drop 10).take 1
noncomputable def stC : List Stmt := (bM.drop 11).take 12
noncomputable def stD : List Stmt := bM.drop 23
theorem hbM : bM = stA ++ (stB ++ (stC ++ (stD ++ []))) := by kernel_rfl
noncomputable def s_b (w : World) (os : OsState) : SharedT := ⟨tr_b w.params, 15, {}, #[], {}, 187, os⟩
noncomputable def s_p9 (w : World) (os : OsState) : SharedT := ⟨tr_p9 w.params, 98, {}, #[], {}, 325, os⟩
noncomputable def s_p10 (w : World) (os : OsState) : SharedT := ⟨tr_p10 w.params, 169, {}, #[], {}, 427, os⟩
noncomputable def s_p22 (w : World) (os : OsState) : SharedT := ⟨tr_p22 w.params, 240, {}, #[], {}, 525, os⟩
noncomputable def s_fin (w : World) (os : OsState) : SharedT := ⟨tr_fin w.params, 313, {}, #[], {}, 657, os⟩
theorem preM (w : World) (os : OsState) : topGo treeTable lawP w 11 (some (.ref 6)) 12 ⟨boot_heap w.params, #[], boot_drawn, boot_toks, os⟩ (topStub lawP) = some ((s_b w os).abs, ⟨denote treeTable cM, cM, ⟨0, 0, 0, 0⟩, frM⟩) := by kernel_rfl
theorem blockM (w : World) (os : OsState) : segRun treeTable lawP w 11 (some (.ref 6)) 1 1 (s_b w os).abs (blockOf bM envM cM ⟨0, 0, 0, 0⟩ frM) = some (.next, (s_b w os).abs, cM, ⟨0, 0, 0, 0⟩) := by kernel_rfl
theorem g_p9 (w : World) (os : OsState) : segRunT treeTable lawP w 11 (some (.ref 6)) 1 722 (s_b w os) (piecesOf stA envM cM ⟨0, 0, 0, 0⟩ frM) = some (.next, s_p9 w os, cM, ⟨16, 0, 52, 64⟩) := by kernel_rfl
theorem g_p10 (w : World) (os : OsState) : segRunT treeTable lawP w 11 (some (.ref 6)) 1 465 (s_p9 w os) (piecesOf stB envM cM ⟨16, 0, 52, 64⟩ frM) = some (.next, s_p10 w os, cM, ⟨53, 0, 98, 16⟩) := by kernel_rfl
theorem g_p22 (w : World) (os : OsState) : segRunT treeTable lawP w 11 (some (.ref 6)) 1 342 (s_p10 w os) (piecesOf stC envM cM ⟨53, 0, 98, 16⟩ frM) = some (.next, s_p22 w os, cM, ⟨178, 0, 185, 12⟩) := by kernel_rfl
theorem g_fin (w : World) (os : OsState) : segRunT treeTable lawP w 11 (some (.ref 6)) 1 385 (s_p22 w os) (piecesOf stD envM cM ⟨178, 0, 185, 12⟩ frM) = some (.next, s_fin w os, cM, ⟨292, 0, 328, 15⟩) := by kernel_rfl
theorem finM (w : World) (os : OsState) : topRun treeTable lawP w 11 (some (.ref 6)) 2 (s_fin w os).abs ⟨doneF .next, cM, ⟨292, 0, 328, 15⟩, frM⟩ = some (s_fin w os).abs := by kernel_rfl
theorem runM (w : World) (os : OsState) : topRun treeTable lawP w 11 (some (.ref 6)) (12 + (1 + (722 + (465 + (342 + (385 + 2)))))) ⟨boot_heap w.params, #[], boot_drawn, boot_toks, os⟩ (topStub lawP) = some (s_fin w os).abs := by
  refine go_top (preM w os) ?_
  refine piece_block (blockM w os) ?_
  rw [hbM]
  refine piece_app (segRun_of (g_p9 w os)) ?_
  refine piece_app (segRun_of (g_p10 w os)) ?_
  refine piece_app (segRun_of (g_p22 w os)) ?_
  refine piece_app (segRun_of (g_fin w os)) ?_
  exact piece_nil (finM w os)
theorem openM : ∀ w : World, (fencedOpening treeTable lawP w 3946).map (fun s => (s.heap, s.gens, s.drawn, s.toks)) = some (boot_heap w.params, #[], boot_drawn, boot_toks) :=
  boot_open (by kernel_rfl) (by kernel_rfl) (fun s => by kernel_rfl)
theorem sizeM : ∀ w : World, ((boot_heap w.params).isNs mainGlobals && (#[] : Array GenState).size == 0, (boot_heap w.params).objs.size, (boot_heap w.params).nsMap mainGlobals "__annotations__") = (true, 11, (some (.ref 6))) := fun w => by kernel_rfl
noncomputable def hpF (P : Params) : Heap := absHeap (tr_fin P) 313 {}
abbrev xtM (s : Shared) : Bool := xlAt hd.view_39 [] s && recOk (RowW.records PySem.Challenge.rw_np0057_01.row.toRowW) s
theorem looksM : ∀ w : World, (fun os => ((staticsOk (importedModules lawP.main.body) (boot_heap w.params) (hpF w.params) && namesBound lawP (hpF w.params) && gensDone ⟨hpF w.params, #[], {}, 657, os⟩ && laidKept (boot_heap w.params) (hpF w.params)),
        openSeen hd.view_39 [] (importedModules lawP.main.body) xtM true ⟨hpF w.params, #[], {}, 657, os⟩, (kHook hd.heap_39 heapA heapE).obs ⟨hpF w.params, #[], {}, 657, os⟩)) = fun _ => (true, openGood hd.view_39 [], (kHook hd.heap_39 heapA heapE).val w) := fun w => by kernel_rfl
theorem left2 : LeftO lawP hd.view_39 [] (fun s => xlAt hd.view_39 [] s && recOk (RowW.records PySem.Challenge.rw_np0057_01.row.toRowW) s) (kHook hd.heap_39 heapA heapE).obs (kHook hd.heap_39 heapA heapE).val 3946 :=
  LeftO.of_pieces (H₀ := boot_heap) (H₁ := hpF) openM sizeM (fun w os => runM w os) (by kernel_rfl) looksM
noncomputable abbrev lawL : OpenLaw := PySem.Challenge.rw_np0057_01
theorem lk1 : sreFenced lawP.main = true := by kernel_rfl
theorem lk2 : ((moduleNames lawP.main.body).isEmpty || lookedIntoSs (moduleNames lawP.main.body) lawP.main.body) = true := by kernel_rfl
theorem lk3 : namesResolve lawP = true := by kernel_rfl
theorem lk4 : lawP.boundNames.all (fun n => !worldNames.contains n) = true := by kernel_rfl
theorem lk5 : noRoadLSs { strict := !(importedModules lawP.main.body).all cThrough.contains, foot := none, bare := (["vars", "dir", "locals"] : List Str).filter (readsOut lawP lawP.main.body) } lawP.main.body = true := by kernel_rfl
theorem lk6 : (namesMeet lawP lawP.main.body fun _ n => attrL n) = true := by kernel_rfl
theorem looks : looksOpen lawL.row.toRowW.prog = true := look_both (look_both (look_both (look_both (look_both lk1 lk2) lk3) lk4) lk5) lk6
theorem part : lawL.row.partSaid = true := by
  unfold OpenRow.partSaid
  rw [looks]
  kernel_rfl
theorem said1 : PySem.Challenge.rw_np0057_01.wellSaid = true := by
  show lawL.wellSaid = true
  unfold OpenLaw.wellSaid OpenRow.wellSaid
  rw [part]
  kernel_rfl
end
end PartHead
open PySem.Calls
section PartBase

theorem filled_b : (fun (_ : OpenLaw) (_ : Params → Frag) => True) PySem.Challenge.rw_np0057_01 Mine.hd.heap_39 := by
  k_fill
  trivial

/-- one entry of an object's dict -/
abbrev ent (P : Params) (n : String) (t : Tok) (v : Value) : DictEntry := ⟨PyData.keyHash P (Str.ofString n), .str (Str.ofString n) t, v⟩

/-- a window of the tree -/
structure Win where
  x : Addr
  d : Addr
  chi : Addr
  ear : Addr
  lat : Addr
  num : Int
  sort : Int
  par : Int
  left : Int
  top : Int
  wid : Int
  hei : Int
  tn : Tok
  ts : Tok
  tp : Tok
  tl : Tok
  tt : Tok
  tw : Tok
  th : Tok
  buf : Value
  sta : Value
  poi : Value
  hsc : Value
  ded : Value
  use : Value
  k : Nat → Tok

abbrev Win.es (P : Params) (W : Win) : List DictEntry := [
  ent P "number" (W.k 0) (.int W.num W.tn), ent P "sort" (W.k 1) (.int W.sort W.ts), ent P "parent" (W.k 2) (.int W.par W.tp), ent P "children" (W.k 3) (.ref W.chi),
  ent P "left" (W.k 4) (.int W.left W.tl), ent P "top" (W.k 5) (.int W.top W.tt), ent P "width" (W.k 6) (.int W.wid W.tw), ent P "height" (W.k 7) (.int W.hei W.th),
  ent P "buffer" (W.k 8) W.buf, ent P "start" (W.k 9) W.sta, ent P "point" (W.k 10) W.poi, ent P "hscroll" (W.k 11) W.hsc,
  ent P "is_dedicated" (W.k 12) W.ded, ent P "use_time" (W.k 13) W.use, ent P "earlier" (W.k 14) (.ref W.ear), ent P "later" (W.k 15) (.ref W.lat)]

/-- the tree's own object -/
structure Tre where
  x : Addr
  d : Addr
  wd : Addr
  wo : Obj
  kvs : List (Int × Value)
  last : Int
  clock : Int
  lw : Int
  lh : Int
  root : Int
  sel : Int
  tl : Tok
  tc : Tok
  tw : Tok
  th : Tok
  tr : Tok
  tz : Tok
  k : Nat → Tok

abbrev Tre.es (P : Params) (T : Tre) : List DictEntry := [
  ent P "windows" (T.k 0) (.ref T.wd), ent P "last" (T.k 1) (.int T.last T.tl), ent P "clock" (T.k 2) (.int T.clock T.tc), ent P "least_width" (T.k 3) (.int T.lw T.tw),
  ent P "least_height" (T.k 4) (.int T.lh T.th), ent P "root" (T.k 5) (.int T.root T.tr), ent P "selected" (T.k 6) (.int T.sel T.tz)]

structure WinIn (P : Params) (news : List (Addr × Obj)) (W : Win) : Prop where
  x : (W.x, instObj 93 W.d) ∈ news
  d : (W.d, dictOf (W.es P) 16) ∈ news

structure TreIn (w : World) (news : List (Addr × Obj)) (T : Tre) : Prop where
  x : (T.x, instObj 164 T.d) ∈ news
  d : (T.d, dictOf (T.es w.params) 7) ∈ news
  wi : (T.wd, T.wo) ∈ news
  is : T.wo.IsDictOf (PySem.intKind PySem.Challenge.rw_np0057_01.row.prog w) T.kvs
  lo : (T.wd == sysModules) = false

theorem isList_of {h₀ h : Heap} {L a : Addr} {news : List (Addr × Obj)} {its : Array Value} {n : Nat} (N : News h₀ L h news) (hm : (a, listOf its n) ∈ news) : h.IsList a its := ⟨_, (N _ hm).1, rfl, n, rfl⟩
theorem ne_nil_some {prog : Program} {w : World} {A : Around} {E Q : Value → Shared → Prop} {s : Shared} {h₀ : Heap} {L a b : Addr} {news : List (Addr × Obj)} {its : Array Value} {n k : Nat} (N : News h₀ L s.heap news)
    (ha : (a, listOf its n) ∈ news) (hb : (b, listOf #[] k) ∈ news) (hs : (its.size != 0) = true) (hu : A.units < cLine) (h : Q (.bool true) s) : wpAny (model prog w) A (compareOp .NotEq (.ref a) (.ref b)) Q E s :=
  SeqAt.RcNeAt.lists_lengths (isList_of N ha) (isList_of N hb) hs hu prog w E Q h
theorem ne_nil_none {prog : Program} {w : World} {A : Around} {E Q : Value → Shared → Prop} {s : Shared} {h₀ : Heap} {L a b : Addr} {news : List (Addr × Obj)} {n k : Nat} (N : News h₀ L s.heap news)
    (ha : (a, listOf #[] n) ∈ news) (hb : (b, listOf #[] k) ∈ news) (hu : A.units < cLine) (h : Q (.bool false) s) : wpAny (model prog w) A (compareOp .NotEq (.ref a) (.ref b)) Q E s :=
  SeqAt.RcNeAt.lists (e := fun _ => true) (isList_of N ha) (isList_of N hb) rfl hu (fun j h1 _ => absurd h1 (Nat.not_lt_zero _)) prog w E Q (by simpa using h)

theorem TreIn.cons {w : World} {news : List (Addr × Obj)} {V : Tre} {q : Addr × Obj} (h : TreIn w news V) : TreIn w (q :: news) V := ⟨.tail _ h.x, .tail _ h.d, .tail _ h.wi, h.is, h.lo⟩
theorem WinIn.cons {P : Params} {news : List (Addr × Obj)} {W : Win} {q : Addr × Obj} (h : WinIn P news W) : WinIn P (q :: news) W := ⟨.tail _ h.x, .tail _ h.d⟩

theorem unr_at {h₀ : Heap} {L I : Addr} {it : Obj} {rest : (Str → Option Value) → List (Addr × Obj) → Prop} {s₁ : Shared} {h' : Heap} {tk : Nat} {m' : Str → Option Value} (pre : List (Addr × Obj)) {post : List (Addr × Obj)} (F : Fr h₀ L h' m') (N : News h₀ L h' (pre ++ (I, it) :: post))
    (off1 : ∀ p ∈ pre, p.1 ≠ I) (off2 : ∀ p ∈ post, p.1 ≠ I) (r : rest m' (pre ++ post)) : UnrEnd h₀ L s₁ I it rest { s₁ with heap := h', toks := tk } := by
  refine UnrEnd.intro F N (pre ++ post) (fun p hp => ?_) (fun p hp => ?_) r
  · rcases List.mem_cons.mp hp with rfl | hp
    · exact List.mem_append_right _ (.head _)
    · rcases List.mem_append.mp hp with hp | hp
      · exact List.mem_append_left _ hp
      · exact List.mem_append_right _ (.tail _ hp)
  · rcases List.mem_append.mp hp with hp | hp
    · exact off1 p hp
    · exact off2 p hp
theorem ne_of_lt_all {b d : Addr} {l : List (Addr × Obj)} (h : ∀ p ∈ l, p.1 < b) (hb : b ≤ d) : ∀ p ∈ l, p.1 ≠ d := fun p hp => Nat.ne_of_lt (Nat.lt_of_lt_of_le (h p hp) hb)

theorem ite_eqp {a b : Int} {P R : Prop} (h : a = b) (hp : P) : if (a == b) = true then P else R := by rw [if_pos (by simpa using h)]; exact hp
theorem ite_eqn {a b : Int} {P R : Prop} (h : ¬ a = b) (hr : R) : if (a == b) = true then P else R := by rw [if_neg (by simpa using h)]; exact hr
theorem ite_nep {a b : Int} {P R : Prop} (h : ¬ a = b) (hp : P) : if (a != b) = true then P else R := by rw [if_pos (by simpa using h)]; exact hp
theorem ite_nen {a b : Int} {P R : Prop} (h : a = b) (hr : R) : if (a != b) = true then P else R := by rw [if_neg (by simpa using h)]; exact hr
theorem ite_decp {c : Prop} [Decidable c] {P R : Prop} (h : c) (hp : P) : if decide c = true then P else R := by rw [if_pos (by simpa using h)]; exact hp
theorem ite_decn {c : Prop} [Decidable c] {P R : Prop} (h : ¬ c) (hr : R) : if decide c = true then P else R := by rw [if_neg (by simpa using h)]; exact hr
theorem valueAt_stored {kvs : List (Int × Value)} {k : Int} {v : Value} : valueAt (stored kvs k v) k = some v := by
  unfold stored
  split
  · rename_i h
    induction kvs with
    | nil => simp at h
    | cons q r ih =>
      unfold valueAt
      by_cases hq : q.1 = k
      · simp [hq]
      · simp only [List.map_cons, if_neg hq, List.find?_cons, decide_eq_false hq]
        exact ih (by simpa [hq] using h)
  · rename_i h
    have hn : kvs.find? (fun kv => decide (kv.1 = k)) = none := by
      rw [List.find?_eq_none]
      intro x hx hk
      exact h (List.any_eq_true.mpr ⟨x, hx, hk⟩)
    unfold valueAt
    rw [List.find?_append, hn]
    simp
theorem valueAt_stored_ne {kvs : List (Int × Value)} {k j : Int} {v u : Value} (hj : j ≠ k) (h : valueAt kvs j = some u) : valueAt (stored kvs k v) j = some u := by
  unfold stored
  split
  · rename_i h'
    clear h'
    induction kvs with
    | nil => exact h
    | cons q r ih =>
      unfold valueAt at h ⊢
      by_cases hq : q.1 = j
      · subst hq
        simp only [List.find?_cons, decide_true, Option.map_some] at h
        simp only [List.map_cons, if_neg hj, List.find?_cons, decide_true, Option.map_some]
        exact h
      · have hq' : ¬ (if q.1 = k then (q.1, v) else q).1 = j := by split <;> exact hq
        simp only [List.find?_cons, decide_eq_false hq] at h
        simp only [List.map_cons, List.find?_cons, decide_eq_false hq']
        exact ih h
  · unfold valueAt at h ⊢
    cases hf : kvs.find? (fun kv => decide (kv.1 = j)) with
    | none => rw [hf] at h; cases h
    | some x => rw [hf] at h; rw [List.find?_append, hf]; exact h

section
variable {prog : Program} {w : World} {A : Around} {E Q : Value → Shared → Prop} {s : Shared} {h₀ : Heap} {L D b l : Addr} {m : Str → Option Value} {news news' : List (Addr × Obj)} {n n2 : Nat} {xs ys : List Value} {y : Value}
theorem kl_last_app : ∀ (xs : List Value) (y : Value), kl_last (xs ++ [y]) = some (xs, y)
  | [], _ => rfl
  | [_], _ => rfl
  | x :: z :: r, y => by
    have := kl_last_app (z :: r) y
    simp only [List.cons_append, kl_last] at this ⊢
    rw [this]
theorem pop_l (F : Fr h₀ L s.heap m) (N : News h₀ L s.heap news) (U : Upd D (listOf (xs ++ [y]).toArray n) (listOf xs.toArray (n + 1)) news news') (hz : (xs ++ [y]).length ≤ 1000)
    (h : ∀ h', Fr h₀ L h' m → News h₀ L h' news' → Q y { s with heap := h' }) : wpAny (model prog w) A (call (.builtin "list.pop") [.ref D]) Q E s :=
  kl_pop F N (kl_last_app xs y) U (Nat.le_trans hz (by decide)) h
theorem append_l (F : Fr h₀ L s.heap m) (N : News h₀ L s.heap news) (U : Upd D (listOf xs.toArray n) (listOf (xs ++ [y]).toArray (n + 1)) news news') (hz : xs.length ≤ 1000)
    (h : ∀ h', Fr h₀ L h' m → News h₀ L h' news' → Q .none { s with heap := h' }) : wpAny (model prog w) A (call (.builtin "list.append") [.ref D, y]) Q E s :=
  append_K (its := xs.toArray) (n := n) F N (by rw [List.push_toArray]; exact U) h (by rw [List.size_toArray]; exact Nat.le_trans hz (by decide))
theorem extend_l (F : Fr h₀ L s.heap m) (N : News h₀ L s.heap news) (hb : (b, listOf ys.toArray n2) ∈ news) (hne : ys ≠ []) (U : Upd D (listOf #[] n) (listOf ys.toArray (n + 1)) news news') (hz : ys.length ≤ 1000)
    (h : ∀ h', Fr h₀ L h' m → News h₀ L h' news' → Q .none { s with heap := h' }) : wpAny (model prog w) A (call (.builtin "list.extend") [.ref D, .ref b]) Q E s :=
  kl_extend F N hb (by simp) (by simpa using hne) U (by simp) (by decide) (by simp only [List.size_toArray, List.length_nil, Nat.zero_add]; exact Nat.le_trans hz (by decide)) h
theorem rev_l {value slice : PySem.Expr} {vk : Value} {ops : List Value} (F : Fr h₀ L s.heap m) (N : News h₀ L s.heap news) (hm : (l, listOf xs.toArray n) ∈ news) (pk : IsPart vk (some (-1))) (hz : xs.length ≤ 1000)
    (h : ∀ D h', Fr h₀ L h' m → News h₀ L h' ((D, listOf xs.reverse.toArray 0) :: news) → (∀ p ∈ news, p.1 < D) → Q (.ref D) { s with heap := h' })
    (hs : subscripted slice false (.ref l) (.ref s.heap.objs.size) = operate ops (getItem (.ref l) (.ref s.heap.objs.size))) (ht : ∀ r, letTemporaryGo value (.ref l) r = pure ()) :
    wpAny (model prog w) A (subscriptTail value slice (.ref l) (.ref s.heap.objs.size)) Q E { s with heap := s.heap.push { cls := .type "slice", data := .fields #[.none, .none, vk] } } :=
  krv_lit (its := xs.toArray) (zs := xs.reverse) F N (isList_of N hm) pk rfl h hs ht (by rw [List.size_toArray]; exact Nat.le_trans hz (by decide))
end

def WStep {σ : Type} (Inv : σ → Shared → Prop) (μ : σ → Nat) (c : σ) (Q : Flow → Shared → Prop) (f : Flow) (s₃ : Shared) : Prop :=
  match f with
  | .ret v => Q (.ret v) s₃
  | .brk => Q .next s₃
  | _ => ∃ c', μ c' < μ c ∧ Inv c' s₃
theorem whl_ind {prog : Program} {w : World} {A : Around} {E : Value → Shared → Prop} {s : Shared} {env : Env} {test : PySem.Expr} {body orelse : List Stmt} {Q : Flow → Shared → Prop} {k : Nat} {σ : Type} (Inv : σ → Shared → Prop) (μ : σ → Nat) (c₀ : σ) (h0 : Inv c₀ s)
    (hE : PassesOwn (model prog w) A env E)
    (turn : ∀ c s', Inv c s' → wpAny (model prog w) A (isTrue test env (eval test env)) (fun b s₂ => WhlIf b (wpAny (model prog w) A (execs body env) (WStep Inv μ c Q) E s₂) (wpAny (model prog w) A (execs orelse env) Q E s₂)) E s') :
    WhlRest prog w A E env test body orelse Q k s := by
  have key : ∀ n c s', μ c < n → Inv c s' → WhlRest prog w A E env test body orelse Q (k + 1) s' := by
    intro n
    induction n with
    | zero => intro c s' h; exact absurd h (Nat.not_lt_zero _)
    | succ n ih =>
      intro c s' hc hi
      refine whl_turn hE (wpAny_mono (turn c s' hi) (fun b s₂ q => ?_) fun _ _ x => x)
      cases b with
      | false =>
        unfold WhlIf at q ⊢
        rw [if_neg Bool.false_ne_true] at q ⊢
        exact q
      | true =>
        unfold WhlIf at q ⊢
        rw [if_pos rfl] at q ⊢
        refine wpAny_mono q (fun f s₃ z => ?_) fun _ _ x => x
        cases f with
        | ret v => exact z
        | brk => exact z
        | next => obtain ⟨c', h1, h2⟩ := z; exact ih c' s₃ (Nat.lt_of_lt_of_le h1 (Nat.le_of_lt_succ hc)) h2
        | cont => obtain ⟨c', h1, h2⟩ := z; exact ih c' s₃ (Nat.lt_of_lt_of_le h1 (Nat.le_of_lt_succ hc)) h2
  exact key (μ c₀ + 1) c₀ s (Nat.lt_succ_self _) h0

abbrev kv (p : Win × Tok) : Value := .int p.1.num p.2
abbrev fv (p : Win × Tok) : Value := .int p.1.num p.1.tn
structure LeafIn (w : World) (news : List (Addr × Obj)) (V : Tre) (W : Win) : Prop where
  win : WinIn w.params news W
  at_ : valueAt V.kvs W.num = some (.ref W.x)
  sort : W.sort = 0
  chi : ∃ n, (W.chi, listOf #[] n) ∈ news
theorem LeafIn.cons {w : World} {news : List (Addr × Obj)} {V : Tre} {W : Win} {q : Addr × Obj} (h : LeafIn w news V W) : LeafIn w (q :: news) V W := ⟨h.win.cons, h.at_, h.sort, h.chi.imp fun _ h => .tail _ h⟩
structure RootIn (w : World) (news : List (Addr × Obj)) (V : Tre) (R : Win) (kids : List (Win × Tok)) : Prop where
  win : WinIn w.params news R
  at_ : valueAt V.kvs R.num = some (.ref R.x)
  sort : ¬ R.sort = 0
  chi : ∃ n, (R.chi, listOf (kids.map kv).toArray n) ∈ news
  root : V.root = R.num
  ne : kids ≠ []
  len : kids.length ≤ 10
theorem RootIn.cons {w : World} {news : List (Addr × Obj)} {V : Tre} {R : Win} {kids : List (Win × Tok)} {q : Addr × Obj} (h : RootIn w news V R kids) : RootIn w (q :: news) V R kids := ⟨h.win.cons, h.at_, h.sort, h.chi.imp fun _ h => .tail _ h, h.root, h.ne, h.len⟩

abbrev Win.setleft (W : Win) (i : Int) (t : Tok) : Win := {W with left := i, tl := t}
abbrev Win.settop (W : Win) (i : Int) (t : Tok) : Win := {W with top := i, tt := t}
abbrev Win.setwid (W : Win) (i : Int) (t : Tok) : Win := {W with wid := i, tw := t}
abbrev Win.sethei (W : Win) (i : Int) (t : Tok) : Win := {W with hei := i, th := t}
abbrev Win.setpar (W : Win) (i : Int) (t : Tok) : Win := {W with par := i, tp := t}
abbrev Win.setchi (W : Win) (c : Addr) : Win := {W with chi := c}
def Win.setSize (W : Win) (ax i : Int) (t : Tok) : Win := if ax = 0 then W.setwid i t else W.sethei i t
abbrev Win.size (W : Win) (ax : Int) : Int := if ax = 0 then W.wid else W.hei
abbrev Win.place (W : Win) (ax : Int) : Int := if ax = 0 then W.left else W.top

theorem whlif_t {b : Bool} {P R : Prop} (h : b = true) (hp : P) : WhlIf b P R := by subst h; unfold WhlIf; rw [if_pos rfl]; exact hp
theorem whlif_f {b : Bool} {P R : Prop} (h : b = false) (hr : R) : WhlIf b P R := by subst h; unfold WhlIf; rw [if_neg Bool.false_ne_true]; exact hr

theorem ne_cell1 {L d : Addr} {o : Obj} {news : List (Addr × Obj)} (h : ∀ p ∈ news, p.1 < L) (hm : (d, o) ∈ news) : L + 1 ≠ d := Nat.ne_of_gt (Nat.lt_succ_of_lt (h _ hm))
theorem ne_cell2 {L d : Addr} {o : Obj} {news : List (Addr × Obj)} (h : ∀ p ∈ news, p.1 < L) (hm : (d, o) ∈ news) : L + 1 + 1 ≠ d := Nat.ne_of_gt (Nat.lt_succ_of_lt (Nat.lt_succ_of_lt (h _ hm)))
theorem ne_cell3 {L d : Addr} {o : Obj} {news : List (Addr × Obj)} (h : ∀ p ∈ news, p.1 < L) (hm : (d, o) ∈ news) : L + 1 + 1 + 1 ≠ d := Nat.ne_of_gt (Nat.lt_succ_of_lt (Nat.lt_succ_of_lt (Nat.lt_succ_of_lt (h _ hm))))
theorem ne_all {l d : Addr} {o : Obj} {news : List (Addr × Obj)} (h : AllLt l news) (hm : (d, o) ∈ news) : l ≠ d := Nat.ne_of_gt (ktn_ltOf h _ hm)

theorem set_l {prog : Program} {w : World} {A : Around} {E : Value → Shared → Prop} {s : Shared} {h₀ : Heap} {L D : Addr} {m : Str → Option Value} {news news' : List (Addr × Obj)} {xs : List Value} {n : Nat} {k : Int} {t : Tok} {y : Value} {Q : Unit → Shared → Prop}
    (F : Fr h₀ L s.heap m) (N : News h₀ L s.heap news) (hmU : (D, listOf xs.toArray n) ∈ news) (U : Upd D (listOf xs.toArray n) (listOf (xs.set k.toNat y).toArray n) news news') (h0 : 0 ≤ k) (h1 : k < xs.length) (hfit : k < 2 ^ 63)
    (h : ∀ h', Fr h₀ L h' m → News h₀ L h' news' → Q () { s with heap := h' }) : wpAny (model prog w) A (setItem (.ref D) (.int k t) y) Q E s := by
  obtain ⟨pre, post, rfl, rfl, a, b⟩ := U.split
  have z := N (D, listOf xs.toArray n) (List.mem_append.mpr (.inr (.head _)))
  refine ki_setAt z.1 h0 hfit (by rw [List.size_toArray]; omega) (h _ (F.change (Heap.SameBut.update ..) z.2.1 z.2.2) (ki_turn _ N a b ?_ ?_))
  · show xs.toArray.setIfInBounds k.toNat y = (xs.set k.toNat y).toArray
    apply Array.toList_inj.mp
    simp
  · simp

theorem set_i {prog : Program} {w : World} {A : Around} {E : Value → Shared → Prop} {s : Shared} {h₀ : Heap} {L D : Addr} {m : Str → Option Value} {news news' : List (Addr × Obj)} {vs : List Value} {ns : List Int} {n : Nat} {k x : Int} {t u : Tok} {Q : Unit → Shared → Prop}
    (F : Fr h₀ L s.heap m) (N : News h₀ L s.heap news) (hmU : (D, listOf vs.toArray n) ∈ news) (hi : IntsAre vs ns) (U : Upd D (listOf vs.toArray n) (listOf (vs.set k.toNat (.int x u)).toArray n) news news') (h0 : 0 ≤ k) (h1 : k < ns.length) (hfit : k < 2 ^ 63)
    (h : ∀ h', Fr h₀ L h' m → News h₀ L h' news' → IntsAre (vs.set k.toNat (.int x u)) (ns.set k.toNat x) → Q () { s with heap := h' }) : wpAny (model prog w) A (setItem (.ref D) (.int k t) (.int x u)) Q E s :=
  ksa_set F N U hi h0 h1 hfit fun h' F' N' I' _ _ => h h' F' N' I'

theorem units_make (A : Around) (args : Args) : (A.under (.builtin "type.__call__" args)).units = A.units + 1 := by
  first | rfl | simp [Around.under, Code.cUnits, Code.frames, Code.isFrame]

theorem valueAt_stored' {kvs : List (Int × Value)} {k j : Int} {v : Value} (h : j = k) : valueAt (stored kvs k v) j = some v := by subst h; exact valueAt_stored

section
variable {prog : Program} {w : World} {A : Around} {E : Value → Shared → Prop} {hp : Heap} {gg : Array GenState} {dr : Drawn} {tn : Nat} {oo : OsState} {K : Frag} {x C dx L : Addr} {h₀ : Heap} {m : Str → Option Value} {news news' : List (Addr × Obj)} {ox : Obj} {es es' : List DictEntry} {n n' : Nat} {name : Str} {v : Value}
theorem get_ownE {expr : Bool} {Q : Value → Shared → Prop} {attr : Option Value} (F : Fr h₀ L hp m) (X₀ : K.In h₀) (I : InstAt hp x ox C (some (dictOf es n))) (hg : plainGet K C name = true) (hh : hasDictIn K C = true)
    (ha : findIn K (.ref C) name = some attr) (hn : noGet K attr = true) (hl : getL name es = some (some v)) (hv : handedIn v = true) (h : Q v ⟨hp, gg, dr, tn + 1, oo⟩) :
    wpAny (model prog w) A (getAttr (.ref x) name expr) Q E ⟨hp, gg, dr, tn, oo⟩ := get_own (s := ⟨hp, gg, dr, tn, oo⟩) F X₀ I hg hh ha hn hl hv h
theorem set_dictE {Q : Unit → Shared → Prop} (F : Fr h₀ L hp m) (X₀ : K.In h₀) (N : News h₀ L hp news) (I : InstAt hp x ox C (some (dictOf es n))) (hd : ox.dict = some dx)
    (hs : findIn K (.ref C) "__setattr__" = some (some (.builtin "object.__setattr__"))) (hp' : plainOver K C = true) (ht : takerIn K C name = some none) (hh : hasDictIn K C = true) (hl : (getL name es).isSome = true)
    (e : (putL name (PyData.keyHash w.params name) (.str name (tn + 1)) v es, putN name es n) = (es', n')) (U : Upd dx (dictOf es n) (dictOf es' n') news news') (hz : es'.length ≤ 1000)
    (h : ∀ h', Fr h₀ L h' m → News h₀ L h' news' → Q () ⟨h', gg, dr, tn + 2, oo⟩) :
    wpAny (model prog w) A (setAttr (.ref x) name v) Q E ⟨hp, gg, dr, tn, oo⟩ := set_dict (s := ⟨hp, gg, dr, tn, oo⟩) F X₀ N I hd hs hp' ht hh hl e U hz h
theorem dict_getE {d : Addr} {o : Obj} {kvs : List (Int × Value)} {k : Int} {key : Value} {Q : Value → Shared → Prop} (N : News h₀ L hp news) (hm : (d, o) ∈ news) (hd : o.IsDictOf (PySem.intKind prog w) kvs) (hkey : (PySem.intKind prog w).is k key = true) (hl : valueAt kvs k = some v) (h : Q v ⟨hp, gg, dr, tn + 1, oo⟩) :
    wpAny (model prog w) A (getItem (.ref d) key) Q E ⟨hp, gg, dr, tn, oo⟩ := kdt_getItem (s := ⟨hp, gg, dr, tn, oo⟩) N hm hd hkey hl h
end

theorem rm0 {a n R : Nat} (h : a + n < R) : a < R := Nat.lt_of_le_of_lt (Nat.le_add_right _ _) h
theorem rm1 {a n j R : Nat} (h : a + n < R) (e : Nat.ble j n = true) : a + j < R := Nat.lt_of_le_of_lt (Nat.add_le_add_left (Nat.le_of_ble_eq_true e) a) h
theorem rm2 {a n j k R : Nat} (h : a + n < R) (e : Nat.ble (j + k) n = true) : a + j + k < R := by rw [Nat.add_assoc]; exact rm1 h e
theorem rm3 {a n j k l R : Nat} (h : a + n < R) (e : Nat.ble (j + (k + l)) n = true) : a + j + k + l < R := by rw [Nat.add_assoc, Nat.add_assoc]; exact rm1 h e
theorem all_self {l : List (Addr × Obj)} : ∀ p ∈ l, p ∈ l := fun _ h => h
theorem all_tail {l l2 : List (Addr × Obj)} {x : Addr × Obj} (h : ∀ p ∈ l, p ∈ l2) : ∀ p ∈ l, p ∈ x :: l2 := fun p hp => .tail _ (h p hp)
theorem all_sub {l l2 : List (Addr × Obj)} {P : Addr × Obj → Prop} (h : ∀ p ∈ l2, P p) (hs : ∀ p ∈ l, p ∈ l2) : ∀ p ∈ l, P p := fun p hp => h p (hs p hp)

theorem ex1 {α0 : Type} {P : α0 → Prop} {G : Prop} (h : ∃ x0, P x0) (k : ∀ x0, P x0 → G) : G := by
  obtain ⟨x0, h⟩ := h
  exact k x0 h
theorem ex2 {α0 : Type} {α1 : Type} {P : α0 → α1 → Prop} {G : Prop} (h : ∃ x0 x1, P x0 x1) (k : ∀ x0 x1, P x0 x1 → G) : G := by
  obtain ⟨x0, x1, h⟩ := h
  exact k x0 x1 h
theorem ex3 {α0 : Type} {α1 : Type} {α2 : Type} {P : α0 → α1 → α2 → Prop} {G : Prop} (h : ∃ x0 x1 x2, P x0 x1 x2) (k : ∀ x0 x1 x2, P x0 x1 x2 → G) : G := by
  obtain ⟨x0, x1, x2, h⟩ := h
  exact k x0 x1 x2 h
theorem ex4 {α0 : Type} {α1 : Type} {α2 : Type} {α3 : Type} {P : α0 → α1 → α2 → α3 → Prop} {G : Prop} (h : ∃ x0 x1 x2 x3, P x0 x1 x2 x3) (k : ∀ x0 x1 x2 x3, P x0 x1 x2 x3 → G) : G := by
  obtain ⟨x0, x1, x2, x3, h⟩ := h
  exact k x0 x1 x2 x3 h
theorem ex5 {α0 : Type} {α1 : Type} {α2 : Type} {α3 : Type} {α4 : Type} {P : α0 → α1 → α2 → α3 → α4 → Prop} {G : Prop} (h : ∃ x0 x1 x2 x3 x4, P x0 x1 x2 x3 x4) (k : ∀ x0 x1 x2 x3 x4, P x0 x1 x2 x3 x4 → G) : G := by
  obtain ⟨x0, x1, x2, x3, x4, h⟩ := h
  exact k x0 x1 x2 x3 x4 h
theorem ex6 {α0 : Type} {α1 : Type} {α2 : Type} {α3 : Type} {α4 : Type} {α5 : Type} {P : α0 → α1 → α2 → α3 → α4 → α5 → Prop} {G : Prop} (h : ∃ x0 x1 x2 x3 x4 x5, P x0 x1 x2 x3 x4 x5) (k : ∀ x0 x1 x2 x3 x4 x5, P x0 x1 x2 x3 x4 x5 → G) : G := by
  obtain ⟨x0, x1, x2, x3, x4, x5, h⟩ := h
  exact k x0 x1 x2 x3 x4 x5 h
theorem ex7 {α0 : Type} {α1 : Type} {α2 : Type} {α3 : Type} {α4 : Type} {α5 : Type} {α6 : Type} {P : α0 → α1 → α2 → α3 → α4 → α5 → α6 → Prop} {G : Prop} (h : ∃ x0 x1 x2 x3 x4 x5 x6, P x0 x1 x2 x3 x4 x5 x6) (k : ∀ x0 x1 x2 x3 x4 x5 x6, P x0 x1 x2 x3 x4 x5 x6 → G) : G := by
  obtain ⟨x0, x1, x2, x3, x4, x5, x6, h⟩ := h
  exact k x0 x1 x2 x3 x4 x5 x6 h
theorem ex8 {α0 : Type} {α1 : Type} {α2 : Type} {α3 : Type} {α4 : Type} {α5 : Type} {α6 : Type} {α7 : Type} {P : α0 → α1 → α2 → α3 → α4 → α5 → α6 → α7 → Prop} {G : Prop} (h : ∃ x0 x1 x2 x3 x4 x5 x6 x7, P x0 x1 x2 x3 x4 x5 x6 x7) (k : ∀ x0 x1 x2 x3 x4 x5 x6 x7, P x0 x1 x2 x3 x4 x5 x6 x7 → G) : G := by
  obtain ⟨x0, x1, x2, x3, x4, x5, x6, x7, h⟩ := h
  exact k x0 x1 x2 x3 x4 x5 x6 x7 h
theorem an5 {a0 a1 a2 a3 a4 G : Prop} (h : a0 ∧ a1 ∧ a2 ∧ a3 ∧ a4) (k : a0 → a1 → a2 → a3 → a4 → G) : G := by
  obtain ⟨h0, h1, h2, h3, h4⟩ := h
  exact k h0 h1 h2 h3 h4
theorem an7 {a0 a1 a2 a3 a4 a5 a6 G : Prop} (h : a0 ∧ a1 ∧ a2 ∧ a3 ∧ a4 ∧ a5 ∧ a6) (k : a0 → a1 → a2 → a3 → a4 → a5 → a6 → G) : G := by
  obtain ⟨h0, h1, h2, h3, h4, h5, h6⟩ := h
  exact k h0 h1 h2 h3 h4 h5 h6
theorem an8 {a0 a1 a2 a3 a4 a5 a6 a7 G : Prop} (h : a0 ∧ a1 ∧ a2 ∧ a3 ∧ a4 ∧ a5 ∧ a6 ∧ a7) (k : a0 → a1 → a2 → a3 → a4 → a5 → a6 → a7 → G) : G := by
  obtain ⟨h0, h1, h2, h3, h4, h5, h6, h7⟩ := h
  exact k h0 h1 h2 h3 h4 h5 h6 h7
theorem an9 {a0 a1 a2 a3 a4 a5 a6 a7 a8 G : Prop} (h : a0 ∧ a1 ∧ a2 ∧ a3 ∧ a4 ∧ a5 ∧ a6 ∧ a7 ∧ a8) (k : a0 → a1 → a2 → a3 → a4 → a5 → a6 → a7 → a8 → G) : G := by
  obtain ⟨h0, h1, h2, h3, h4, h5, h6, h7, h8⟩ := h
  exact k h0 h1 h2 h3 h4 h5 h6 h7 h8
theorem an10 {a0 a1 a2 a3 a4 a5 a6 a7 a8 a9 G : Prop} (h : a0 ∧ a1 ∧ a2 ∧ a3 ∧ a4 ∧ a5 ∧ a6 ∧ a7 ∧ a8 ∧ a9) (k : a0 → a1 → a2 → a3 → a4 → a5 → a6 → a7 → a8 → a9 → G) : G := by
  obtain ⟨h0, h1, h2, h3, h4, h5, h6, h7, h8, h9⟩ := h
  exact k h0 h1 h2 h3 h4 h5 h6 h7 h8 h9
theorem an11 {a0 a1 a2 a3 a4 a5 a6 a7 a8 a9 a10 G : Prop} (h : a0 ∧ a1 ∧ a2 ∧ a3 ∧ a4 ∧ a5 ∧ a6 ∧ a7 ∧ a8 ∧ a9 ∧ a10) (k : a0 → a1 → a2 → a3 → a4 → a5 → a6 → a7 → a8 → a9 → a10 → G) : G := by
  obtain ⟨h0, h1, h2, h3, h4, h5, h6, h7, h8, h9, h10⟩ := h
  exact k h0 h1 h2 h3 h4 h5 h6 h7 h8 h9 h10
theorem an12 {a0 a1 a2 a3 a4 a5 a6 a7 a8 a9 a10 a11 G : Prop} (h : a0 ∧ a1 ∧ a2 ∧ a3 ∧ a4 ∧ a5 ∧ a6 ∧ a7 ∧ a8 ∧ a9 ∧ a10 ∧ a11) (k : a0 → a1 → a2 → a3 → a4 → a5 → a6 → a7 → a8 → a9 → a10 → a11 → G) : G := by
  obtain ⟨h0, h1, h2, h3, h4, h5, h6, h7, h8, h9, h10, h11⟩ := h
  exact k h0 h1 h2 h3 h4 h5 h6 h7 h8 h9 h10 h11
theorem an21 {a0 a1 a2 a3 a4 a5 a6 a7 a8 a9 a10 a11 a12 a13 a14 a15 a16 a17 a18 a19 a20 G : Prop} (h : a0 ∧ a1 ∧ a2 ∧ a3 ∧ a4 ∧ a5 ∧ a6 ∧ a7 ∧ a8 ∧ a9 ∧ a10 ∧ a11 ∧ a12 ∧ a13 ∧ a14 ∧ a15 ∧ a16 ∧ a17 ∧ a18 ∧ a19 ∧ a20) (k : a0 → a1 → a2 → a3 → a4 → a5 → a6 → a7 → a8 → a9 → a10 → a11 → a12 → a13 → a14 → a15 → a16 → a17 → a18 → a19 → a20 → G) : G := by
  obtain ⟨h0, h1, h2, h3, h4, h5, h6, h7, h8, h9, h10, h11, h12, h13, h14, h15, h16, h17, h18, h19, h20⟩ := h
  exact k h0 h1 h2 h3 h4 h5 h6 h7 h8 h9 h10 h11 h12 h13 h14 h15 h16 h17 h18 h19 h20
theorem ex15 {α0 : Type} {α1 : Type} {α2 : Type} {α3 : Type} {α4 : Type} {α5 : Type} {α6 : Type} {α7 : Type} {α8 : Type} {α9 : Type} {α10 : Type} {α11 : Type} {α12 : Type} {α13 : Type} {α14 : Type} {P : α0 → α1 → α2 → α3 → α4 → α5 → α6 → α7 → α8 → α9 → α10 → α11 → α12 → α13 → α14 → Prop} {G : Prop} (h : ∃ x0 x1 x2 x3 x4 x5 x6 x7 x8 x9 x10 x11 x12 x13 x14, P x0 x1 x2 x3 x4 x5 x6 x7 x8 x9 x10 x11 x12 x13 x14) (k : ∀ x0 x1 x2 x3 x4 x5 x6 x7 x8 x9 x10 x11 x12 x13 x14, P x0 x1 x2 x3 x4 x5 x6 x7 x8 x9 x10 x11 x12 x13 x14 → G) : G := by
  obtain ⟨x0, x1, x2, x3, x4, x5, x6, x7, x8, x9, x10, x11, x12, x13, x14, h⟩ := h
  exact k x0 x1 x2 x3 x4 x5 x6 x7 x8 x9 x10 x11 x12 x13 x14 h

theorem chain5 {a b c d e : Nat} (h1 : a < b) (h2 : b < c) (h3 : c < d) (h4 : d < e) : a < c ∧ a < b ∧ a < d ∧ a < e ∧ b < c ∧ b < d ∧ b < e ∧ c < d ∧ c < e ∧ d < e := by omega

end PartBase
section PartAttr
section
variable {w : World} {A : Around} {E : Value → Shared → Prop} {hp : Heap} {gg : Array GenState} {dr : Drawn} {tn : Nat} {oo : OsState} {h₀ : Heap} {L : Addr} {m : Str → Option Value} {news news' : List (Addr × Obj)} {W : Win} {V : Tre} {x d : Addr} {expr : Bool}
theorem gw_num {Q : Value → Shared → Prop} (F : Fr h₀ L hp m) (X : (Mine.hd.heap_39 w.params).In h₀) (N : News h₀ L hp news) (h1 : (x, instObj 93 d) ∈ news) (h2 : (d, dictOf (W.es w.params) 16) ∈ news) (h : Q (.int W.num W.tn) ⟨hp, gg, dr, tn + 1, oo⟩) :
    wpAny (model PySem.Challenge.rw_np0057_01.row.prog w) A (getAttr (.ref x) (Str.ofString "number") expr) Q E ⟨hp, gg, dr, tn, oo⟩ :=
  get_own (s := ⟨hp, gg, dr, tn, oo⟩) F X (InstAt.of_news N h1 h2) (by k_is) (by k_is) (by k_is) (by k_is) (by k_get) rfl h
theorem gw_sort {Q : Value → Shared → Prop} (F : Fr h₀ L hp m) (X : (Mine.hd.heap_39 w.params).In h₀) (N : News h₀ L hp news) (h1 : (x, instObj 93 d) ∈ news) (h2 : (d, dictOf (W.es w.params) 16) ∈ news) (h : Q (.int W.sort W.ts) ⟨hp, gg, dr, tn + 1, oo⟩) :
    wpAny (model PySem.Challenge.rw_np0057_01.row.prog w) A (getAttr (.ref x) (Str.ofString "sort") expr) Q E ⟨hp, gg, dr, tn, oo⟩ :=
  get_own (s := ⟨hp, gg, dr, tn, oo⟩) F X (InstAt.of_news N h1 h2) (by k_is) (by k_is) (by k_is) (by k_is) (by k_get) rfl h
theorem gw_par {Q : Value → Shared → Prop} (F : Fr h₀ L hp m) (X : (Mine.hd.heap_39 w.params).In h₀) (N : News h₀ L hp news) (h1 : (x, instObj 93 d) ∈ news) (h2 : (d, dictOf (W.es w.params) 16) ∈ news) (h : Q (.int W.par W.tp) ⟨hp, gg, dr, tn + 1, oo⟩) :
    wpAny (model PySem.Challenge.rw_np0057_01.row.prog w) A (getAttr (.ref x) (Str.ofString "parent") expr) Q E ⟨hp, gg, dr, tn, oo⟩ :=
  get_own (s := ⟨hp, gg, dr, tn, oo⟩) F X (InstAt.of_news N h1 h2) (by k_is) (by k_is) (by k_is) (by k_is) (by k_get) rfl h
theorem gw_chi {Q : Value → Shared → Prop} (F : Fr h₀ L hp m) (X : (Mine.hd.heap_39 w.params).In h₀) (N : News h₀ L hp news) (h1 : (x, instObj 93 d) ∈ news) (h2 : (d, dictOf (W.es w.params) 16) ∈ news) (h : Q (.ref W.chi) ⟨hp, gg, dr, tn + 1, oo⟩) :
    wpAny (model PySem.Challenge.rw_np0057_01.row.prog w) A (getAttr (.ref x) (Str.ofString "children") expr) Q E ⟨hp, gg, dr, tn, oo⟩ :=
  get_own (s := ⟨hp, gg, dr, tn, oo⟩) F X (InstAt.of_news N h1 h2) (by k_is) (by k_is) (by k_is) (by k_is) (by k_get) rfl h
theorem gw_left {Q : Value → Shared → Prop} (F : Fr h₀ L hp m) (X : (Mine.hd.heap_39 w.params).In h₀) (N : News h₀ L hp news) (h1 : (x, instObj 93 d) ∈ news) (h2 : (d, dictOf (W.es w.params) 16) ∈ news) (h : Q (.int W.left W.tl) ⟨hp, gg, dr, tn + 1, oo⟩) :
    wpAny (model PySem.Challenge.rw_np0057_01.row.prog w) A (getAttr (.ref x) (Str.ofString "left") expr) Q E ⟨hp, gg, dr, tn, oo⟩ :=
  get_own (s := ⟨hp, gg, dr, tn, oo⟩) F X (InstAt.of_news N h1 h2) (by k_is) (by k_is) (by k_is) (by k_is) (by k_get) rfl h
theorem gw_top {Q : Value → Shared → Prop} (F : Fr h₀ L hp m) (X : (Mine.hd.heap_39 w.params).In h₀) (N : News h₀ L hp news) (h1 : (x, instObj 93 d) ∈ news) (h2 : (d, dictOf (W.es w.params) 16) ∈ news) (h : Q (.int W.top W.tt) ⟨hp, gg, dr, tn + 1, oo⟩) :
    wpAny (model PySem.Challenge.rw_np0057_01.row.prog w) A (getAttr (.ref x) (Str.ofString "top") expr) Q E ⟨hp, gg, dr, tn, oo⟩ :=
  get_own (s := ⟨hp, gg, dr, tn, oo⟩) F X (InstAt.of_news N h1 h2) (by k_is) (by k_is) (by k_is) (by k_is) (by k_get) rfl h
theorem gw_wid {Q : Value → Shared → Prop} (F : Fr h₀ L hp m) (X : (Mine.hd.heap_39 w.params).In h₀) (N : News h₀ L hp news) (h1 : (x, instObj 93 d) ∈ news) (h2 : (d, dictOf (W.es w.params) 16) ∈ news) (h : Q (.int W.wid W.tw) ⟨hp, gg, dr, tn + 1, oo⟩) :
    wpAny (model PySem.Challenge.rw_np0057_01.row.prog w) A (getAttr (.ref x) (Str.ofString "width") expr) Q E ⟨hp, gg, dr, tn, oo⟩ :=
  get_own (s := ⟨hp, gg, dr, tn, oo⟩) F X (InstAt.of_news N h1 h2) (by k_is) (by k_is) (by k_is) (by k_is) (by k_get) rfl h
theorem gw_hei {Q : Value → Shared → Prop} (F : Fr h₀ L hp m) (X : (Mine.hd.heap_39 w.params).In h₀) (N : News h₀ L hp news) (h1 : (x, instObj 93 d) ∈ news) (h2 : (d, dictOf (W.es w.params) 16) ∈ news) (h : Q (.int W.hei W.th) ⟨hp, gg, dr, tn + 1, oo⟩) :
    wpAny (model PySem.Challenge.rw_np0057_01.row.prog w) A (getAttr (.ref x) (Str.ofString "height") expr) Q E ⟨hp, gg, dr, tn, oo⟩ :=
  get_own (s := ⟨hp, gg, dr, tn, oo⟩) F X (InstAt.of_news N h1 h2) (by k_is) (by k_is) (by k_is) (by k_is) (by k_get) rfl h
theorem gt_windows {Q : Value → Shared → Prop} (F : Fr h₀ L hp m) (X : (Mine.hd.heap_39 w.params).In h₀) (N : News h₀ L hp news) (h1 : (x, instObj 164 d) ∈ news) (h2 : (d, dictOf (V.es w.params) 7) ∈ news) (h : Q (.ref V.wd) ⟨hp, gg, dr, tn + 1, oo⟩) :
    wpAny (model PySem.Challenge.rw_np0057_01.row.prog w) A (getAttr (.ref x) (Str.ofString "windows") expr) Q E ⟨hp, gg, dr, tn, oo⟩ :=
  get_own (s := ⟨hp, gg, dr, tn, oo⟩) F X (InstAt.of_news N h1 h2) (by k_is) (by k_is) (by k_is) (by k_is) (by k_get) rfl h
theorem gt_lw {Q : Value → Shared → Prop} (F : Fr h₀ L hp m) (X : (Mine.hd.heap_39 w.params).In h₀) (N : News h₀ L hp news) (h1 : (x, instObj 164 d) ∈ news) (h2 : (d, dictOf (V.es w.params) 7) ∈ news) (h : Q (.int V.lw V.tw) ⟨hp, gg, dr, tn + 1, oo⟩) :
    wpAny (model PySem.Challenge.rw_np0057_01.row.prog w) A (getAttr (.ref x) (Str.ofString "least_width") expr) Q E ⟨hp, gg, dr, tn, oo⟩ :=
  get_own (s := ⟨hp, gg, dr, tn, oo⟩) F X (InstAt.of_news N h1 h2) (by k_is) (by k_is) (by k_is) (by k_is) (by k_get) rfl h
theorem gt_lh {Q : Value → Shared → Prop} (F : Fr h₀ L hp m) (X : (Mine.hd.heap_39 w.params).In h₀) (N : News h₀ L hp news) (h1 : (x, instObj 164 d) ∈ news) (h2 : (d, dictOf (V.es w.params) 7) ∈ news) (h : Q (.int V.lh V.th) ⟨hp, gg, dr, tn + 1, oo⟩) :
    wpAny (model PySem.Challenge.rw_np0057_01.row.prog w) A (getAttr (.ref x) (Str.ofString "least_height") expr) Q E ⟨hp, gg, dr, tn, oo⟩ :=
  get_own (s := ⟨hp, gg, dr, tn, oo⟩) F X (InstAt.of_news N h1 h2) (by k_is) (by k_is) (by k_is) (by k_is) (by k_get) rfl h
theorem gt_root {Q : Value → Shared → Prop} (F : Fr h₀ L hp m) (X : (Mine.hd.heap_39 w.params).In h₀) (N : News h₀ L hp news) (h1 : (x, instObj 164 d) ∈ news) (h2 : (d, dictOf (V.es w.params) 7) ∈ news) (h : Q (.int V.root V.tr) ⟨hp, gg, dr, tn + 1, oo⟩) :
    wpAny (model PySem.Challenge.rw_np0057_01.row.prog w) A (getAttr (.ref x) (Str.ofString "root") expr) Q E ⟨hp, gg, dr, tn, oo⟩ :=
  get_own (s := ⟨hp, gg, dr, tn, oo⟩) F X (InstAt.of_news N h1 h2) (by k_is) (by k_is) (by k_is) (by k_is) (by k_get) rfl h
theorem sw_wid {Q : Unit → Shared → Prop} {i : Int} {t : Tok} (F : Fr h₀ L hp m) (X : (Mine.hd.heap_39 w.params).In h₀) (N : News h₀ L hp news) (h1 : (x, instObj 93 d) ∈ news) (h2 : (d, dictOf (W.es w.params) 16) ∈ news)
    (U : Upd d (dictOf (W.es w.params) 16) (dictOf ((W.setwid i t).es w.params) 16) news news')
    (h : ∀ h', Fr h₀ L h' m → News h₀ L h' news' → Q () ⟨h', gg, dr, tn + 2, oo⟩) :
    wpAny (model PySem.Challenge.rw_np0057_01.row.prog w) A (setAttr (.ref x) (Str.ofString "width") (.int i t)) Q E ⟨hp, gg, dr, tn, oo⟩ :=
  set_dict (s := ⟨hp, gg, dr, tn, oo⟩) F X N (InstAt.of_news N h1 h2) rfl (by k_is) (by k_is) (by k_is) (by k_is) (by k_get) (by k_put) U (by show (16 : Nat) ≤ 1000; decide) h
theorem sw_hei {Q : Unit → Shared → Prop} {i : Int} {t : Tok} (F : Fr h₀ L hp m) (X : (Mine.hd.heap_39 w.params).In h₀) (N : News h₀ L hp news) (h1 : (x, instObj 93 d) ∈ news) (h2 : (d, dictOf (W.es w.params) 16) ∈ news)
    (U : Upd d (dictOf (W.es w.params) 16) (dictOf ((W.sethei i t).es w.params) 16) news news')
    (h : ∀ h', Fr h₀ L h' m → News h₀ L h' news' → Q () ⟨h', gg, dr, tn + 2, oo⟩) :
    wpAny (model PySem.Challenge.rw_np0057_01.row.prog w) A (setAttr (.ref x) (Str.ofString "height") (.int i t)) Q E ⟨hp, gg, dr, tn, oo⟩ :=
  set_dict (s := ⟨hp, gg, dr, tn, oo⟩) F X N (InstAt.of_news N h1 h2) rfl (by k_is) (by k_is) (by k_is) (by k_is) (by k_get) (by k_put) U (by show (16 : Nat) ≤ 1000; decide) h
theorem sw_left {Q : Unit → Shared → Prop} {i : Int} {t : Tok} (F : Fr h₀ L hp m) (X : (Mine.hd.heap_39 w.params).In h₀) (N : News h₀ L hp news) (h1 : (x, instObj 93 d) ∈ news) (h2 : (d, dictOf (W.es w.params) 16) ∈ news)
    (U : Upd d (dictOf (W.es w.params) 16) (dictOf ((W.setleft i t).es w.params) 16) news news')
    (h : ∀ h', Fr h₀ L h' m → News h₀ L h' news' → Q () ⟨h', gg, dr, tn + 2, oo⟩) :
    wpAny (model PySem.Challenge.rw_np0057_01.row.prog w) A (setAttr (.ref x) (Str.ofString "left") (.int i t)) Q E ⟨hp, gg, dr, tn, oo⟩ :=
  set_dict (s := ⟨hp, gg, dr, tn, oo⟩) F X N (InstAt.of_news N h1 h2) rfl (by k_is) (by k_is) (by k_is) (by k_is) (by k_get) (by k_put) U (by show (16 : Nat) ≤ 1000; decide) h
theorem sw_top {Q : Unit → Shared → Prop} {i : Int} {t : Tok} (F : Fr h₀ L hp m) (X : (Mine.hd.heap_39 w.params).In h₀) (N : News h₀ L hp news) (h1 : (x, instObj 93 d) ∈ news) (h2 : (d, dictOf (W.es w.params) 16) ∈ news)
    (U : Upd d (dictOf (W.es w.params) 16) (dictOf ((W.settop i t).es w.params) 16) news news')
    (h : ∀ h', Fr h₀ L h' m → News h₀ L h' news' → Q () ⟨h', gg, dr, tn + 2, oo⟩) :
    wpAny (model PySem.Challenge.rw_np0057_01.row.prog w) A (setAttr (.ref x) (Str.ofString "top") (.int i t)) Q E ⟨hp, gg, dr, tn, oo⟩ :=
  set_dict (s := ⟨hp, gg, dr, tn, oo⟩) F X N (InstAt.of_news N h1 h2) rfl (by k_is) (by k_is) (by k_is) (by k_is) (by k_get) (by k_put) U (by show (16 : Nat) ≤ 1000; decide) h
theorem sw_par {Q : Unit → Shared → Prop} {i : Int} {t : Tok} (F : Fr h₀ L hp m) (X : (Mine.hd.heap_39 w.params).In h₀) (N : News h₀ L hp news) (h1 : (x, instObj 93 d) ∈ news) (h2 : (d, dictOf (W.es w.params) 16) ∈ news)
    (U : Upd d (dictOf (W.es w.params) 16) (dictOf ((W.setpar i t).es w.params) 16) news news')
    (h : ∀ h', Fr h₀ L h' m → News h₀ L h' news' → Q () ⟨h', gg, dr, tn + 2, oo⟩) :
    wpAny (model PySem.Challenge.rw_np0057_01.row.prog w) A (setAttr (.ref x) (Str.ofString "parent") (.int i t)) Q E ⟨hp, gg, dr, tn, oo⟩ :=
  set_dict (s := ⟨hp, gg, dr, tn, oo⟩) F X N (InstAt.of_news N h1 h2) rfl (by k_is) (by k_is) (by k_is) (by k_is) (by k_get) (by k_put) U (by show (16 : Nat) ≤ 1000; decide) h
theorem sw_chi {Q : Unit → Shared → Prop} {c : Addr} (F : Fr h₀ L hp m) (X : (Mine.hd.heap_39 w.params).In h₀) (N : News h₀ L hp news) (h1 : (x, instObj 93 d) ∈ news) (h2 : (d, dictOf (W.es w.params) 16) ∈ news)
    (U : Upd d (dictOf (W.es w.params) 16) (dictOf ((W.setchi c).es w.params) 16) news news')
    (h : ∀ h', Fr h₀ L h' m → News h₀ L h' news' → Q () ⟨h', gg, dr, tn + 2, oo⟩) :
    wpAny (model PySem.Challenge.rw_np0057_01.row.prog w) A (setAttr (.ref x) (Str.ofString "children") (.ref c)) Q E ⟨hp, gg, dr, tn, oo⟩ :=
  set_dict (s := ⟨hp, gg, dr, tn, oo⟩) F X N (InstAt.of_news N h1 h2) rfl (by k_is) (by k_is) (by k_is) (by k_is) (by k_get) (by k_put) U (by show (16 : Nat) ≤ 1000; decide) h
end

end PartAttr
section PartLoops

structure CStep (h₀ : Heap) (L : Addr) (m : Str → Option Value) (s₁ : Shared) (I : Addr) (oI : Obj) (C : Addr) (oC : Obj) (D : Addr) (oD : Obj) (news : List (Addr × Obj)) (Inv : List Value → Prop) (ys : List Value) (y : Value) (s₂ : Shared) : Prop where
  ex : ∃ h' tk, s₂ = { s₁ with heap := h', toks := tk } ∧ Fr h₀ L h' m ∧ News h₀ L h' ((I, oI) :: (C, oC) :: (D, oD) :: news) ∧ Inv (ys ++ [y])
theorem CStep.intro {h₀ : Heap} {L : Addr} {m : Str → Option Value} {s₁ : Shared} {I : Addr} {oI : Obj} {C : Addr} {oC : Obj} {D : Addr} {oD : Obj} {news all : List (Addr × Obj)} {Inv : List Value → Prop} {ys : List Value} {y : Value} {h' : Heap} {tk : Nat}
    (F : Fr h₀ L h' m) (N : News h₀ L h' all) (sub : ∀ p ∈ (I, oI) :: (C, oC) :: (D, oD) :: news, p ∈ all) (i : Inv (ys ++ [y])) : CStep h₀ L m s₁ I oI C oC D oD news Inv ys y { s₁ with heap := h', toks := tk } := ⟨h', tk, rfl, F, fun p hp => N p (sub p hp), i⟩
theorem comp_ind {prog : Program} {w : World} {A : Around} {h₀ : Heap} {L : Addr} {m : Str → Option Value} {env : Env} {elt : PySem.Expr} {x : Str} {scope : Scope} {cl : List (Str × Addr)} {s : Shared} {S : List (Addr × Obj) → Prop} {P : Nat → Value → Prop} {Fin : List Value → List (Addr × Obj) → Prop} {n : Nat} {news : List (Addr × Obj)}
    (Inv : Nat → List Value → Prop) (h0 : Inv 0 []) (hS : S news)
    (turn : ∀ i ys, i < n → Inv i ys → ∀ (v : Value) (I : Addr) (oI : Obj) (C : Addr) (oC : Obj) (D : Addr) (m₂ : Str → Option Value) (h : Heap) (tk : Nat) (E' : Value → Shared → Prop), P i v → LCg.NsObj oC m₂ → m₂ x = some v → Fr h₀ L h m → News h₀ L h ((I, oI) :: (C, oC) :: (D, LCg.lst ys) :: news) →
      (∀ p ∈ news, p.1 ≠ I ∧ p.1 ≠ C ∧ p.1 ≠ D) → ((@Ne Nat I C) ∧ (@Ne Nat I D) ∧ (@Ne Nat C D)) →
      wpAny (model prog w) A (eval elt (compEnvC scope cl C env)) (CStep h₀ L m { s with heap := h, toks := tk } I oI C oC D (LCg.lst ys) news (Inv (i + 1)) ys) E' { s with heap := h, toks := tk })
    (done : ∀ ys, Inv n ys → Fin ys news) : LCg.CompRest prog w A h₀ L m env elt x scope cl s S P Fin n 0 [] news := by
  have key : ∀ k i ys, i + k = n → Inv i ys → LCg.CompRest prog w A h₀ L m env elt x scope cl s S P Fin k i ys news := by
    intro k
    induction k with
    | zero => intro i ys e hi; exact LCg.CompRest.zero (done ys ((show i = n by omega) ▸ hi))
    | succ k ih =>
      intro i ys e hi
      refine LCg.CompRest.succ fun v I oI C oC D m₂ h tk E' hP hN hx F N off ne => ?_
      refine wpAny_mono (turn i ys (by omega) hi v I oI C oC D m₂ h tk E' hP hN hx F N off.mem ne) (fun y s₂ q => ?_) fun _ _ z => z
      obtain ⟨h', tk', rfl, F', N', hi'⟩ := q.ex
      exact LCg.CompEnd.intro F' N' news (fun p hp => hp) off hS (ih (i + 1) (ys ++ [y]) (by omega) hi')
  exact key n 0 [] (Nat.zero_add _) h0

structure LStep (h₀ : Heap) (L : Addr) (s₁ : Shared) (I : Addr) (it : Obj) (lp : Addr × Obj) (Inv : (Str → Option Value) → List (Addr × Obj) → Prop) (Q : Flow → Shared → Prop) (f : Flow) (s₂ : Shared) : Prop where
  ex : match f with
    | .ret v => Q (.ret v) s₂
    | .brk => Q .next s₂
    | _ => ∃ h' tk m' news', s₂ = { s₁ with heap := h', toks := tk } ∧ Fr h₀ L h' m' ∧ News h₀ L h' ((I, it) :: news') ∧ (∀ p ∈ news', p.1 ≠ I) ∧ lp ∈ news' ∧ Inv m' news'
theorem LStep.next {h₀ : Heap} {L : Addr} {s₁ : Shared} {I : Addr} {it : Obj} {lp : Addr × Obj} {Inv : (Str → Option Value) → List (Addr × Obj) → Prop} {Q : Flow → Shared → Prop} {h' : Heap} {tk : Nat} {m' : Str → Option Value} {all : List (Addr × Obj)} (news' : List (Addr × Obj))
    (F : Fr h₀ L h' m') (N : News h₀ L h' all) (sub : ∀ p ∈ (I, it) :: news', p ∈ all) (off : ∀ p ∈ news', p.1 ≠ I) (hl : lp ∈ news') (i : Inv m' news') : LStep h₀ L s₁ I it lp Inv Q .next { s₁ with heap := h', toks := tk } := ⟨h', tk, m', news', rfl, F, fun p hp => N p (sub p hp), off, hl, i⟩
theorem LStep.ret {h₀ : Heap} {L : Addr} {s₁ : Shared} {I : Addr} {it : Obj} {lp : Addr × Obj} {Inv : (Str → Option Value) → List (Addr × Obj) → Prop} {Q : Flow → Shared → Prop} {v : Value} {s₂ : Shared} (h : Q (.ret v) s₂) : LStep h₀ L s₁ I it lp Inv Q (.ret v) s₂ := ⟨h⟩
theorem lst_ind {prog : Program} {w : World} {A : Around} {E : Value → Shared → Prop} {h₀ : Heap} {env : Env} {x : Str} {body : List Stmt} {Q : Flow → Shared → Prop} {s : Shared} {I : Addr} {lp : Addr × Obj} {vs : List Value} {m : Str → Option Value} {news : List (Addr × Obj)}
    (Inv : List Value → (Str → Option Value) → List (Addr × Obj) → Prop) (h0 : Inv vs m news)
    (turn : ∀ v r m news, Inv (v :: r) m news → ∀ (it : Obj) (h : Heap) (tk : Nat), it.cls = .type "list_iterator" → Fr h₀ env.locals h (fun y => if y = x then some v else m y) → News h₀ env.locals h ((I, it) :: news) →
      wpAny (model prog w) A (execs body env) (LStep h₀ env.locals { s with heap := h, toks := tk } I it lp (Inv r) Q) E { s with heap := h, toks := tk })
    (done : ∀ m news h tk, Inv [] m news → Fr h₀ env.locals h m → News h₀ env.locals h news → Q .next { s with heap := h, toks := tk }) :
    ListRest prog w A E h₀ env x body Q s I lp vs m news := by
  induction vs generalizing m news with
  | nil => exact ListRest.zero fun h tk F N => done _ _ h tk h0 F N
  | cons v r ih =>
    refine ListRest.succ fun it h tk hc F N => ?_
    refine wpAny_mono (turn v r m news h0 it h tk hc F N) (fun f s₂ q => ?_) fun _ _ z => z
    have q := q.ex
    cases f with
    | ret v => exact q
    | brk => exact q
    | next => obtain ⟨h', tk', m', news', rfl, F', N', off, hl, hi⟩ := q; exact UnrEnd.intro F' N' news' (fun p hp => hp) off ⟨hl, ih hi⟩
    | cont => obtain ⟨h', tk', m', news', rfl, F', N', off, hl, hi⟩ := q; exact UnrEnd.intro F' N' news' (fun p hp => hp) off ⟨hl, ih hi⟩

structure RStep (h₀ : Heap) (L : Addr) (s₁ : Shared) (I : Addr) (it : Obj) (Inv : (Str → Option Value) → List (Addr × Obj) → Prop) (Q : Flow → Shared → Prop) (f : Flow) (s₂ : Shared) : Prop where
  ex : match f with
    | .ret v => Q (.ret v) s₂
    | .brk => Q .next s₂
    | _ => ∃ h' tk m' news', s₂ = { s₁ with heap := h', toks := tk } ∧ Fr h₀ L h' m' ∧ News h₀ L h' ((I, it) :: news') ∧ (∀ p ∈ news', p.1 ≠ I) ∧ Inv m' news'
theorem RStep.next {h₀ : Heap} {L : Addr} {s₁ : Shared} {I : Addr} {it : Obj} {Inv : (Str → Option Value) → List (Addr × Obj) → Prop} {Q : Flow → Shared → Prop} {h' : Heap} {tk : Nat} {m' : Str → Option Value} {all : List (Addr × Obj)} (news' : List (Addr × Obj))
    (F : Fr h₀ L h' m') (N : News h₀ L h' all) (sub : ∀ p ∈ (I, it) :: news', p ∈ all) (off : ∀ p ∈ news', p.1 ≠ I) (i : Inv m' news') : RStep h₀ L s₁ I it Inv Q .next { s₁ with heap := h', toks := tk } := ⟨h', tk, m', news', rfl, F, fun p hp => N p (sub p hp), off, i⟩
theorem RStep.ret {h₀ : Heap} {L : Addr} {s₁ : Shared} {I : Addr} {it : Obj} {Inv : (Str → Option Value) → List (Addr × Obj) → Prop} {Q : Flow → Shared → Prop} {v : Value} {s₂ : Shared} (h : Q (.ret v) s₂) : RStep h₀ L s₁ I it Inv Q (.ret v) s₂ := ⟨h⟩
theorem rng_ind {prog : Program} {w : World} {A : Around} {E : Value → Shared → Prop} {h₀ : Heap} {env : Env} {x : Str} {body : List Stmt} {Q : Flow → Shared → Prop} {s : Shared} {I : Addr} {a : Int} {n : Nat} {m : Str → Option Value} {news : List (Addr × Obj)}
    (Inv : Nat → (Str → Option Value) → List (Addr × Obj) → Prop) (h0 : Inv 0 m news)
    (turn : ∀ i m news, i < n → Inv i m news → ∀ (t : Tok) (it : Obj) (h : Heap) (tk : Nat), Fr h₀ env.locals h (fun y => if y = x then some (.int (a + (i : Int)) t) else m y) → News h₀ env.locals h ((I, it) :: news) →
      wpAny (model prog w) A (execs body env) (RStep h₀ env.locals { s with heap := h, toks := tk } I it (Inv (i + 1)) Q) E { s with heap := h, toks := tk })
    (done : ∀ m news h tk, Inv n m news → Fr h₀ env.locals h m → News h₀ env.locals h news → Q .next { s with heap := h, toks := tk }) :
    RangeRest prog w A E h₀ env x body Q s I a n n 0 m news := by
  have key : ∀ k i m news, i + k = n → Inv i m news → RangeRest prog w A E h₀ env x body Q s I a n k i m news := by
    intro k
    induction k with
    | zero => intro i m news e hi; exact RangeRest.zero fun h tk F N => done m news h tk ((show i = n by omega) ▸ hi) F N
    | succ k ih =>
      intro i m news e hi
      refine RangeRest.succ fun t h tk F N => ?_
      refine wpAny_mono (turn i m news (by omega) hi t _ h tk F N) (fun f s₂ q => ?_) fun _ _ z => z
      have q := q.ex
      cases f with
      | ret v => exact q
      | brk => exact q
      | next => obtain ⟨h', tk', m', news', rfl, F', N', off, hi'⟩ := q; exact UnrEnd.intro F' N' news' (fun p hp => hp) off (ih (i + 1) m' news' (by omega) hi')
      | cont => obtain ⟨h', tk', m', news', rfl, F', N', off, hi'⟩ := q; exact UnrEnd.intro F' N' news' (fun p hp => hp) off (ih (i + 1) m' news' (by omega) hi')
  exact key n 0 m news (Nat.zero_add _) h0

end PartLoops
section PartSta

abbrev Kid := Win × Tok
abbrev de (P : Params) (W : Win) : Addr × Obj := (W.d, dictOf (W.es P) 16)
def led (P : Params) (R : Win) (kids : List Kid) (base : List (Addr × Obj)) : List (Addr × Obj) := de P R :: (kids.map (fun k => de P k.1) ++ base)

structure St (w : World) (news : List (Addr × Obj)) (V : Tre) (R : Win) (kids : List Kid) : Prop where
  tre : TreIn w news V
  root : RootIn w news V R kids
  leaf : ∀ p ∈ kids, LeafIn w news V p.1
  rsort : R.sort = 1 ∨ R.sort = 2
  rpar : R.par = 0
  rnz : ¬ R.num = 0
  par : ∀ p ∈ kids, p.1.par = R.num
  nd : (kids.map (·.1.num)).Nodup
  nz : ∀ p ∈ kids, ¬ p.1.num = 0
theorem St.cons {w : World} {news : List (Addr × Obj)} {V : Tre} {R : Win} {kids : List Kid} {q : Addr × Obj} (h : St w news V R kids) : St w (q :: news) V R kids :=
  ⟨h.tre.cons, h.root.cons, fun p hp => (h.leaf p hp).cons, h.rsort, h.rpar, h.rnz, h.par, h.nd, h.nz⟩

structure Ba (w : World) (base : List (Addr × Obj)) (V : Tre) (R : Win) (kids : List Kid) : Prop where
  tre : TreIn w base V
  rx : (R.x, instObj 93 R.d) ∈ base
  rat : valueAt V.kvs R.num = some (.ref R.x)
  rchi : ∃ n, (R.chi, listOf (kids.map kv).toArray n) ∈ base
  rsort : R.sort = 1 ∨ R.sort = 2
  rpar : R.par = 0
  rnz : ¬ R.num = 0
  root : V.root = R.num
  ne : kids ≠ []
  len : kids.length ≤ 10
  nd : (kids.map (·.1.num)).Nodup
  kx : ∀ p ∈ kids, (p.1.x, instObj 93 p.1.d) ∈ base ∧ valueAt V.kvs p.1.num = some (.ref p.1.x) ∧ p.1.sort = 0 ∧ p.1.par = R.num ∧ ∃ n, (p.1.chi, listOf #[] n) ∈ base
  rd : ∀ q ∈ base, q.1 ≠ R.d
  kd : ∀ p ∈ kids, ∀ q ∈ base, q.1 ≠ p.1.d
  rk : ∀ p ∈ kids, p.1.d ≠ R.d
  dd : (kids.map (·.1.d)).Nodup
  nz : ∀ p ∈ kids, ¬ p.1.num = 0

theorem led_base {P : Params} {R : Win} {kids : List Kid} {base : List (Addr × Obj)} {q : Addr × Obj} (h : q ∈ base) : q ∈ led P R kids base := .tail _ (List.mem_append_right _ h)
theorem led_kid {P : Params} {R : Win} {kids : List Kid} {base : List (Addr × Obj)} {p : Kid} (h : p ∈ kids) : de P p.1 ∈ led P R kids base := .tail _ (List.mem_append_left _ (List.mem_map.mpr ⟨p, h, rfl⟩))
theorem led_root {P : Params} {R : Win} {kids : List Kid} {base : List (Addr × Obj)} : de P R ∈ led P R kids base := .head _

theorem Ba.st {w : World} {base : List (Addr × Obj)} {V : Tre} {R : Win} {kids : List Kid} (h : Ba w base V R kids) : St w (led w.params R kids base) V R kids where
  tre := ⟨led_base h.tre.x, led_base h.tre.d, led_base h.tre.wi, h.tre.is, h.tre.lo⟩
  root := ⟨⟨led_base h.rx, led_root⟩, h.rat, by rcases h.rsort with e | e <;> rw [e] <;> decide, h.rchi.imp fun _ h => led_base h, h.root, h.ne, h.len⟩
  leaf := fun p hp => ⟨⟨led_base (h.kx p hp).1, led_kid hp⟩, (h.kx p hp).2.1, (h.kx p hp).2.2.1, (h.kx p hp).2.2.2.2.imp fun _ h => led_base h⟩
  rsort := h.rsort
  rpar := h.rpar
  rnz := h.rnz
  par := fun p hp => (h.kx p hp).2.2.2.1
  nd := h.nd
  nz := h.nz

/-- the same window, up to its place and its size -/
structure Same (W W' : Win) : Prop where
  x : W'.x = W.x
  d : W'.d = W.d
  chi : W'.chi = W.chi
  num : W'.num = W.num
  sort : W'.sort = W.sort
  par : W'.par = W.par
  tn : W'.tn = W.tn
  ear : W'.ear = W.ear
  buf : W'.buf = W.buf
  sta : W'.sta = W.sta
  poi : W'.poi = W.poi
  hsc : W'.hsc = W.hsc
theorem Same.refl {W : Win} : Same W W := ⟨rfl, rfl, rfl, rfl, rfl, rfl, rfl, rfl, rfl, rfl, rfl, rfl⟩
theorem Same.trans {W W' W'' : Win} (a : Same W W') (b : Same W' W'') : Same W W'' := ⟨b.x.trans a.x, b.d.trans a.d, b.chi.trans a.chi, b.num.trans a.num, b.sort.trans a.sort, b.par.trans a.par, b.tn.trans a.tn, b.ear.trans a.ear, b.buf.trans a.buf, b.sta.trans a.sta, b.poi.trans a.poi, b.hsc.trans a.hsc⟩
theorem Same.setSize {W : Win} {ax i : Int} {t : Tok} : Same W (W.setSize ax i t) := by
  unfold Win.setSize
  split <;> exact ⟨rfl, rfl, rfl, rfl, rfl, rfl, rfl, rfl, rfl, rfl, rfl, rfl⟩

/-- kids changed in place and size alone -/
inductive Kin : List Kid → List Kid → Prop
  | nil : Kin [] []
  | cons {W W' : Win} {t : Tok} {r r' : List Kid} : Same W W' → Kin r r' → Kin ((W, t) :: r) ((W', t) :: r')
theorem Kin.refl : ∀ {l : List Kid}, Kin l l
  | [] => .nil
  | (_, _) :: _ => .cons .refl Kin.refl
theorem Kin.trans : ∀ {a b c : List Kid}, Kin a b → Kin b c → Kin a c
  | _, _, _, .nil, .nil => .nil
  | _, _, _, .cons h r, .cons h' r' => .cons (h.trans h') (r.trans r')
theorem Kin.append {a b c d : List Kid} (h : Kin a b) (h' : Kin c d) : Kin (a ++ c) (b ++ d) := by
  induction h with
  | nil => exact h'
  | cons h _ ih => exact .cons h ih
theorem Kin.one {a b : List Kid} {W W' : Win} {t : Tok} (h : Same W W') : Kin (a ++ (W, t) :: b) (a ++ (W', t) :: b) := Kin.refl.append (.cons h .refl)
theorem Kin.mapf {α : Type} (f : Kid → α) (hf : ∀ W W' t, Same W W' → f (W', t) = f (W, t)) {a b : List Kid} (h : Kin a b) : b.map f = a.map f := by
  induction h with
  | nil => rfl
  | cons h _ ih => rw [List.map_cons, List.map_cons, ih, hf _ _ _ h]
theorem Kin.kvs {a b : List Kid} (h : Kin a b) : b.map kv = a.map kv := h.mapf _ fun _ _ _ s => by simp only [kv, s.num]
theorem Kin.fvs {a b : List Kid} (h : Kin a b) : b.map fv = a.map fv := h.mapf _ fun _ _ _ s => by simp only [fv, s.num, s.tn]
theorem Kin.nums {a b : List Kid} (h : Kin a b) : b.map (·.1.num) = a.map (·.1.num) := h.mapf _ fun _ _ _ s => s.num
theorem Kin.ds {a b : List Kid} (h : Kin a b) : b.map (·.1.d) = a.map (·.1.d) := h.mapf _ fun _ _ _ s => s.d
theorem Kin.length {a b : List Kid} (h : Kin a b) : b.length = a.length := by
  induction h with
  | nil => rfl
  | cons _ _ ih => rw [List.length_cons, List.length_cons, ih]
theorem Kin.mem {a b : List Kid} (h : Kin a b) {p : Kid} (hp : p ∈ b) : ∃ q ∈ a, Same q.1 p.1 ∧ q.2 = p.2 := by
  induction h with
  | nil => cases hp
  | cons h _ ih =>
    rcases List.mem_cons.mp hp with rfl | hp
    · exact ⟨_, .head _, h, rfl⟩
    · obtain ⟨q, hq, z⟩ := ih hp
      exact ⟨q, .tail _ hq, z⟩

theorem Ba.move {w : World} {base : List (Addr × Obj)} {V : Tre} {R R' : Win} {kids kids' : List Kid} (h : Ba w base V R kids) (hR : Same R R') (hk : Kin kids kids') : Ba w base V R' kids' where
  tre := h.tre
  rx := by rw [hR.x, hR.d]; exact h.rx
  rat := by rw [hR.x, hR.num]; exact h.rat
  rchi := by rw [hR.chi, hk.kvs]; exact h.rchi
  rsort := by rw [hR.sort]; exact h.rsort
  rpar := by rw [hR.par]; exact h.rpar
  rnz := by rw [hR.num]; exact h.rnz
  root := by rw [hR.num]; exact h.root
  ne := by intro e; subst e; cases hk; exact h.ne rfl
  len := by rw [hk.length]; exact h.len
  nd := by rw [hk.nums]; exact h.nd
  kx := fun p hp => by
    obtain ⟨q, hq, s, _⟩ := hk.mem hp
    rw [s.x, s.d, s.num, s.sort, s.par, s.chi, hR.num]
    exact h.kx q hq
  rd := by rw [hR.d]; exact h.rd
  kd := fun p hp => by
    obtain ⟨q, hq, s, _⟩ := hk.mem hp
    rw [s.d]
    exact h.kd q hq
  rk := fun p hp => by
    obtain ⟨q, hq, s, _⟩ := hk.mem hp
    rw [s.d, hR.d]
    exact h.rk q hq
  dd := by rw [hk.ds]; exact h.dd
  nz := fun p hp => by
    obtain ⟨q, hq, s, _⟩ := hk.mem hp
    rw [s.num]
    exact h.nz q hq

theorem upd_mid {d : Addr} {o o' : Obj} : ∀ {a b : List (Addr × Obj)}, (∀ p ∈ a, p.1 ≠ d) → (∀ p ∈ b, p.1 ≠ d) → Upd d o o' (a ++ (d, o) :: b) (a ++ (d, o') :: b)
  | [], _, _, hb => .head hb
  | _ :: _, _, ha, hb => .tail (ha _ (.head _)) (upd_mid (fun p hp => ha p (.tail _ hp)) hb)
theorem Ba.updR {w : World} {base : List (Addr × Obj)} {V : Tre} {R R' : Win} {kids : List Kid} (h : Ba w base V R kids) (hR : R'.d = R.d) :
    Upd R.d (dictOf (R.es w.params) 16) (dictOf (R'.es w.params) 16) (led w.params R kids base) (led w.params R' kids base) := by
  unfold led de
  rw [hR]
  refine .head fun p hp => ?_
  rcases List.mem_append.mp hp with hp | hp
  · obtain ⟨q, hq, rfl⟩ := List.mem_map.mp hp
    exact h.rk q hq
  · exact h.rd p hp
theorem Ba.updK {w : World} {base : List (Addr × Obj)} {V : Tre} {R W W' : Win} {a b : List Kid} {t : Tok} (h : Ba w base V R (a ++ (W, t) :: b)) (hW : W'.d = W.d) :
    Upd W.d (dictOf (W.es w.params) 16) (dictOf (W'.es w.params) 16) (led w.params R (a ++ (W, t) :: b) base) (led w.params R (a ++ (W', t) :: b) base) := by
  have nd := h.dd
  have hW' : de w.params W' = (W.d, dictOf (W'.es w.params) 16) := by unfold de; rw [hW]
  unfold led
  simp only [List.map_append, List.map_cons, List.append_assoc, List.cons_append, hW']
  refine .tail (Ne.symm (h.rk (W, t) (by simp))) (upd_mid (fun p hp => ?_) fun p hp => ?_)
  · obtain ⟨q, hq, rfl⟩ := List.mem_map.mp hp
    simp only [List.map_append, List.map_cons] at nd
    exact (List.nodup_append.mp nd).2.2 _ (List.mem_map.mpr ⟨q, hq, rfl⟩) _ (.head _)
  · rcases List.mem_append.mp hp with hp | hp
    · obtain ⟨q, hq, rfl⟩ := List.mem_map.mp hp
      simp only [List.map_append, List.map_cons] at nd
      exact Ne.symm (fun e => (List.nodup_cons.mp (List.nodup_append.mp nd).2.1).1 (e ▸ List.mem_map.mpr ⟨q, hq, rfl⟩))
    · exact h.kd (W, t) (by simp) p hp

theorem kids_ints : ∀ (l : List Kid), kf_ints (l.map kv) = true
  | [] => rfl
  | _ :: r => kids_ints r
theorem kids_at : ∀ {a b : List Kid} {p : Kid}, ((a ++ p :: b).map (·.1.num)).Nodup → kf_at p.1.num ((a ++ p :: b).map kv) = some a.length
  | [], b, p, _ => by simp [kf_at, isInt, kv]
  | q :: a, b, p, h => by
    simp only [List.cons_append, List.map_cons, List.nodup_cons] at h
    have hq : ¬ q.1.num = p.1.num := fun e => h.1 (by rw [e]; simp)
    have ih := kids_at h.2
    simp only [List.cons_append, List.map_cons, kf_at, ih]
    have e : isInt p.1.num (kv q) = false := by simp [isInt, hq]
    rw [e]
    rfl
theorem kids_size {l : List Kid} (h : l.length ≤ 10) : (l.map kv).toArray.toList.length ≤ sizeLine := by
  simp only [List.length_map]
  exact Nat.le_trans h (by decide)
theorem kids_size' {l : List Kid} (h : l.length ≤ 10) : (l.map kv).toArray.size ≤ sizeLine := by
  simp only [List.size_toArray, List.length_map]
  exact Nat.le_trans h (by decide)
theorem pick_from {a b : List Kid} {p : Kid} : kms_pick ((a ++ p :: b).map kv).toArray.toList (some ((a.length : Int) + 1)) none = b.map kv := by
  unfold kms_pick kms_lo kms_hi
  have : ¬ ((a.length : Int) + 1 < 0) := by omega
  simp only [this, if_false]
  have e : ((a.length : Int) + 1).toNat = a.length + 1 := by omega
  simp only [e]
  simp
  rw [show a.length + (b.length + 1) - (a.length + 1) = b.length by omega]
  have e2 : List.drop (a.length + 1) (List.map kv a ++ kv p :: List.map kv b) = List.map kv b := by
    rw [List.drop_append]
    simp
  rw [e2]
  exact List.take_of_length_le (by simp)
theorem pick_to {a b : List Kid} : kms_pick ((a ++ b).map kv).toArray.toList none (some (a.length : Int)) = a.map kv := by
  unfold kms_pick kms_lo kms_hi
  have : ¬ ((a.length : Int) < 0) := by omega
  simp only [this, if_false]
  simp

theorem IntsAre.snoc {vs : List Value} {ns : List Int} {n : Int} {t : Tok} (h : IntsAre vs ns) : IntsAre (vs ++ [.int n t]) (ns ++ [n]) := by
  induction h with
  | nil => exact .cons _ _ .nil
  | cons n t _ ih => exact .cons _ _ ih
theorem ints_snoc {l : List Kid} {i : Nat} {f : Kid → Int} {ys : List Value} {q : Kid} {t : Tok} (h : IntsAre ys ((l.take i).map f)) (hq : l[i]? = some q) : IntsAre (ys ++ [.int (f q) t]) ((l.take (i + 1)).map f) := by
  rw [List.take_succ, hq, Option.toList_some, List.map_append]
  exact IntsAre.snoc h
theorem kid_at {l : List Kid} {i : Nat} {v : Value} (h : (l.map kv).toArray[i]? = some v) : ∃ q, l[i]? = some q ∧ kv q = v := by
  simp only [List.getElem?_toArray, List.getElem?_map, Option.map_eq_some_iff] at h
  exact h
abbrev Tre.least (V : Tre) (ax : Int) : Int := if ax = 0 then V.lw else V.lh

theorem St.append {w : World} {news : List (Addr × Obj)} {V : Tre} {R : Win} {kids : List Kid} (h : St w news V R kids) : ∀ (pre : List (Addr × Obj)), St w (pre ++ news) V R kids
  | [] => h
  | _ :: r => (h.append r).cons
theorem upd_pre {d : Addr} {o o' : Obj} {l l' : List (Addr × Obj)} (U : Upd d o o' l l') : ∀ {pre : List (Addr × Obj)}, (∀ p ∈ pre, p.1 ≠ d) → Upd d o o' (pre ++ l) (pre ++ l')
  | [], _ => U
  | _ :: _, h => .tail (h _ (.head _)) (upd_pre U fun p hp => h p (.tail _ hp))
theorem Upd.new {d : Addr} {o o' : Obj} {l l' : List (Addr × Obj)} (U : Upd d o o' l l') : (d, o') ∈ l' := by
  obtain ⟨pre, post, rfl, rfl, _, _⟩ := U.split
  simp
theorem Upd.keep {d : Addr} {o o' : Obj} {l l' : List (Addr × Obj)} (U : Upd d o o' l l') {p : Addr × Obj} (hp : p ∈ l) (hd : p.1 ≠ d) : p ∈ l' := by
  obtain ⟨pre, post, rfl, rfl, _, _⟩ := U.split
  rcases List.mem_append.mp hp with h | h
  · exact List.mem_append_left _ h
  · rcases List.mem_cons.mp h with rfl | h
    · exact absurd rfl hd
    · exact List.mem_append_right _ (.tail _ h)
theorem Upd.keys {d : Addr} {o o' : Obj} {l l' : List (Addr × Obj)} (U : Upd d o o' l l') : l'.map (·.1) = l.map (·.1) := by
  obtain ⟨pre, post, rfl, rfl, _, _⟩ := U.split
  simp

/-- a window that waits for its place -/
structure Wt where
  kid : Kid
  a : Addr
  l : Int
  t : Int
  tl : Tok
  tt : Tok
abbrev Wt.tup (e : Wt) : Addr × Obj := (e.a, { cls := .type "tuple", data := .seq #[.int e.kid.1.num e.kid.2, .int e.l e.tl, .int e.t e.tt] })
abbrev Wt.rf (e : Wt) : Value := .ref e.a
abbrev Wt.fin (e : Wt) : Kid := ((e.kid.1.setleft e.l e.tl).settop e.t e.tt, e.kid.2)
def OffE (ax : Int) : Int → List Wt → Prop
  | _, [] => True
  | o, e :: r => (if ax = 0 then e.l else e.t) = o ∧ OffE ax (o + e.kid.1.size ax) r
def PlK (ax : Int) : Int → List Kid → Prop
  | _, [] => True
  | o, k :: r => k.1.place ax = o ∧ PlK ax (o + k.1.size ax) r
theorem OffE.snoc {ax : Int} {e : Wt} : ∀ {l : List Wt} {o : Int}, OffE ax o l → (if ax = 0 then e.l else e.t) = o + (l.map fun e => e.kid.1.size ax).sum → OffE ax o (l ++ [e])
  | [], o, _, h => ⟨by rw [h]; simp, trivial⟩
  | q :: r, o, x, h => ⟨x.1, OffE.snoc x.2 (by rw [h]; simp only [List.map_cons, List.sum_cons]; omega)⟩
theorem OffE.pl {ax : Int} : ∀ {l : List Wt} {o : Int}, OffE ax o l → PlK ax o (l.map Wt.fin)
  | [], _, _ => trivial
  | q :: r, o, x => ⟨x.1, OffE.pl (l := r) x.2⟩
theorem fin_same {e : Wt} : Same e.kid.1 e.fin.1 := ⟨rfl, rfl, rfl, rfl, rfl, rfl, rfl, rfl, rfl, rfl, rfl, rfl⟩
theorem fin_kin : ∀ {l : List Wt}, Kin (l.map (·.kid)) (l.map Wt.fin)
  | [] => .nil
  | e :: r => .cons fin_same fin_kin
theorem fin_size {ax : Int} : ∀ {l : List Wt}, (l.map Wt.fin).map (·.1.size ax) = (l.map (·.kid)).map (·.1.size ax)
  | [] => rfl
  | e :: r => by rw [List.map_cons, List.map_cons, List.map_cons, List.map_cons, fin_size]

structure SubF (bs : List (Addr × Obj)) (nR : Win → List (Addr × Obj)) : Prop where
  mem : ∀ {q : Addr × Obj}, q ∈ bs → ∀ {Ra : Win}, q ∈ nR Ra
structure MemF (P : Params) (d : Addr) (nR : Win → List (Addr × Obj)) : Prop where
  mem : ∀ {Ra : Win}, (d, dictOf (Ra.es P) 16) ∈ nR Ra
structure UpdF (P : Params) (d : Addr) (nR : Win → List (Addr × Obj)) : Prop where
  upd : ∀ {Ra Rb : Win}, Upd d (dictOf (Ra.es P) 16) (dictOf (Rb.es P) 16) (nR Ra) (nR Rb)
structure OffF (l : Addr) (nR : Win → List (Addr × Obj)) : Prop where
  off : ∀ {Ra : Win}, ∀ p ∈ nR Ra, p.1 ≠ l
theorem UpdF.offF {P : Params} {d l : Addr} {nR : Win → List (Addr × Obj)} (U : UpdF P d nR) {Ra : Win} (h : ∀ p ∈ nR Ra, p.1 ≠ l) : OffF l nR := ⟨fun {Rb} p hp => by
  have e := Upd.keys (U.upd (Ra := Ra) (Rb := Rb))
  have : p.1 ∈ (nR Rb).map (·.1) := List.mem_map.mpr ⟨p, hp, rfl⟩
  rw [e] at this
  obtain ⟨q, hq, e⟩ := List.mem_map.mp this
  rw [← e]
  exact h q hq⟩
theorem UpdF.lt {P : Params} {d l : Addr} {nR : Win → List (Addr × Obj)} (U : UpdF P d nR) {Ra Rb : Win} (h : ∀ p ∈ nR Ra, p.1 < l) : ∀ p ∈ nR Rb, p.1 < l := fun p hp => by
  have e := Upd.keys (U.upd (Ra := Ra) (Rb := Rb))
  have : p.1 ∈ (nR Rb).map (·.1) := List.mem_map.mpr ⟨p, hp, rfl⟩
  rw [e] at this
  obtain ⟨q, hq, e⟩ := List.mem_map.mp this
  rw [← e]
  exact h q hq
theorem led_keys {P : Params} {R R' : Win} {kids kids' : List Kid} {bs : List (Addr × Obj)} (hR : Same R R') (hk : Kin kids kids') : (led P R' kids' bs).map (·.1) = (led P R kids bs).map (·.1) := by
  unfold led
  simp only [List.map_cons, List.map_append, List.map_map, hR.d]
  have := hk.ds
  rw [show ((fun x => x.1) ∘ fun k : Kid => de P k.1) = fun k : Kid => k.1.d from rfl, this]
theorem key_mem {l l' : List (Addr × Obj)} (h : l'.map (·.1) = l.map (·.1)) {p : Addr × Obj} (hp : p ∈ l') : ∃ q ∈ l, q.1 = p.1 := by
  have : p.1 ∈ l'.map (·.1) := List.mem_map.mpr ⟨p, hp, rfl⟩
  rw [h] at this
  exact List.mem_map.mp this
theorem SubF.pre {bs pre : List (Addr × Obj)} {nR : Win → List (Addr × Obj)} (h : SubF bs nR) : SubF bs (fun Wa => pre ++ nR Wa) := ⟨fun {q} hq {Ra} => List.mem_append_right _ (h.mem hq)⟩
theorem MemF.pre {P : Params} {d : Addr} {pre : List (Addr × Obj)} {nR : Win → List (Addr × Obj)} (h : MemF P d nR) : MemF P d (fun Wa => pre ++ nR Wa) := ⟨fun {Ra} => List.mem_append_right _ h.mem⟩
theorem UpdF.pre {P : Params} {d : Addr} {pre : List (Addr × Obj)} {nR : Win → List (Addr × Obj)} (h : UpdF P d nR) (hp : ∀ p ∈ pre, p.1 ≠ d) : UpdF P d (fun Wa => pre ++ nR Wa) := ⟨fun {Ra Rb} => upd_pre h.upd hp⟩
theorem TreIn.subF {w : World} {bs : List (Addr × Obj)} {nR : Win → List (Addr × Obj)} {V : Tre} (h : TreIn w bs V) (s : SubF bs nR) {Ra : Win} : TreIn w (nR Ra) V := ⟨s.mem h.x, s.mem h.d, s.mem h.wi, h.is, h.lo⟩
theorem Ba.fR {w : World} {bs : List (Addr × Obj)} {V : Tre} {R : Win} {kids : List Kid} (h : Ba w bs V R kids) :
    ∃ nR : Win → List (Addr × Obj), SubF bs nR ∧ MemF w.params R.d nR ∧ UpdF w.params R.d nR ∧ (∀ Ra, Ra.d = R.d → nR Ra = led w.params Ra kids bs) ∧ ∀ k ∈ kids, ∀ Ra, de w.params k.1 ∈ nR Ra := by
  refine ⟨fun Ra => (R.d, dictOf (Ra.es w.params) 16) :: (kids.map (fun k => de w.params k.1) ++ bs), ⟨fun {q} h {Ra} => .tail _ (List.mem_append_right _ h)⟩, ⟨fun {Ra} => .head _⟩, ⟨fun {Ra Rb} => .head fun p hp => ?_⟩, fun Ra e => ?_, fun k hk Ra => .tail _ (List.mem_append_left _ (List.mem_map.mpr ⟨k, hk, rfl⟩))⟩
  · rcases List.mem_append.mp hp with hp | hp
    · obtain ⟨q, hq, rfl⟩ := List.mem_map.mp hp
      exact h.rk q hq
    · exact h.rd p hp
  · unfold led de
    rw [e]
theorem Ba.fK {w : World} {bs : List (Addr × Obj)} {V : Tre} {R W : Win} {a b : List Kid} {t : Tok} (h : Ba w bs V R (a ++ (W, t) :: b)) :
    ∃ nR : Win → List (Addr × Obj), SubF bs nR ∧ MemF w.params W.d nR ∧ UpdF w.params W.d nR ∧ (∀ Wa, Wa.d = W.d → nR Wa = led w.params R (a ++ (Wa, t) :: b) bs) ∧ ∀ Wa, de w.params R ∈ nR Wa := by
  have key : ∀ Wa : Win, Wa.d = W.d → led w.params R (a ++ (Wa, t) :: b) bs = de w.params R :: (a.map (fun k => de w.params k.1) ++ (W.d, dictOf (Wa.es w.params) 16) :: (b.map (fun k => de w.params k.1) ++ bs)) := by
    intro Wa e
    unfold led de
    simp [e]
  refine ⟨fun Wa => de w.params R :: (a.map (fun k => de w.params k.1) ++ (W.d, dictOf (Wa.es w.params) 16) :: (b.map (fun k => de w.params k.1) ++ bs)), ⟨fun {q} h {Ra} => ?_⟩, ⟨?_⟩, ⟨fun {Ra Rb} => ?_⟩, fun Wa e => (key Wa e).symm, fun Wa => .head _⟩
  · exact .tail _ (List.mem_append_right _ (.tail _ (List.mem_append_right _ h)))
  · intro Ra; exact .tail _ (List.mem_append_right _ (.head _))
  · refine .tail (Ne.symm (h.rk (W, t) (by simp))) ?_
    have nd := h.dd
    refine upd_mid (fun p hp => ?_) fun p hp => ?_
    · obtain ⟨q, hq, rfl⟩ := List.mem_map.mp hp
      simp only [List.map_append, List.map_cons] at nd
      exact (List.nodup_append.mp nd).2.2 _ (List.mem_map.mpr ⟨q, hq, rfl⟩) _ (.head _)
    · rcases List.mem_append.mp hp with hp | hp
      · obtain ⟨q, hq, rfl⟩ := List.mem_map.mp hp
        simp only [List.map_append, List.map_cons] at nd
        exact Ne.symm (fun e => (List.nodup_cons.mp (List.nodup_append.mp nd).2.1).1 (e ▸ List.mem_map.mpr ⟨q, hq, rfl⟩))
      · exact h.kd (W, t) (by simp) p hp

theorem Same.setpar {W : Win} {i : Int} {t : Tok} (h : W.par = i) : Same W (W.setpar i t) := ⟨rfl, rfl, rfl, rfl, rfl, h.symm, rfl, rfl, rfl, rfl, rfl, rfl⟩
theorem Ba.chi {w : World} {bs : List (Addr × Obj)} {V : Tre} {R : Win} {kids : List Kid} {lf : Addr} {n : Nat} (h : Ba w bs V R kids) (h1 : lf ≠ R.d) (h2 : ∀ p ∈ kids, lf ≠ p.1.d) :
    Ba w ((lf, listOf (kids.map kv).toArray n) :: bs) V (R.setchi lf) kids where
  tre := h.tre.cons
  rx := .tail _ h.rx
  rat := h.rat
  rchi := ⟨n, .head _⟩
  rsort := h.rsort
  rpar := h.rpar
  rnz := h.rnz
  root := h.root
  ne := h.ne
  len := h.len
  nd := h.nd
  kx := fun p hp => ⟨.tail _ (h.kx p hp).1, (h.kx p hp).2.1, (h.kx p hp).2.2.1, (h.kx p hp).2.2.2.1, (h.kx p hp).2.2.2.2.imp fun _ z => .tail _ z⟩
  rd := List.forall_mem_cons.mpr ⟨h1, h.rd⟩
  kd := fun p hp => List.forall_mem_cons.mpr ⟨h2 p hp, h.kd p hp⟩
  rk := h.rk
  dd := h.dd
  nz := h.nz

end PartSta
section PartPlain

/-- what the givers give, one after the other -/
def giveL (least : Int) : Int → List Nat → List Int → List Int
  | _, [], f => f
  | left, i :: r, f => let part := if left > 0 then (if f.getD i 0 - least < left then f.getD i 0 - least else left) else left
    giveL least (left - part) r (f.set i (f.getD i 0 - part))
def takeL (least : Int) : Int → List Nat → List Int → Int × List Int
  | left, [], f => (left, f)
  | left, i :: r, f => let part := if f.getD i 0 - least < left then f.getD i 0 - least else left
    takeL least (left - part) r (f.set i (f.getD i 0 - part))
def idxs (a b : Nat) : List Nat := (List.range b).map (a + 1 + ·) ++ (List.range a).reverse
theorem idxs_lt {a b i : Nat} (h : i ∈ idxs a b) : i < a + 1 + b ∧ i ≠ a := by
  rcases List.mem_append.mp h with h | h
  · obtain ⟨j, hj, rfl⟩ := List.mem_map.mp h
    have := List.mem_range.mp hj
    omega
  · have := List.mem_range.mp (List.mem_reverse.mp h)
    omega
theorem idxs_get {α : Type} {A B : List α} {x d : α} : (idxs A.length B.length).map (fun i => (A ++ x :: B).getD i d) = B ++ A.reverse := by
  unfold idxs
  rw [List.map_append, List.map_map]
  congr 1
  · apply List.ext_getElem?
    intro i
    by_cases h : i < B.length
    · rw [List.getElem?_map, List.getElem?_range h]
      simp only [Option.map_some, Function.comp, List.getD_eq_getElem?_getD]
      rw [List.getElem?_append_right (by omega), show A.length + 1 + i - A.length = i + 1 by omega, List.getElem?_cons_succ, List.getElem?_eq_getElem h]
      rfl
    · rw [List.getElem?_eq_none (by simp; omega), List.getElem?_eq_none (by omega)]
  · rw [List.map_reverse]
    congr 1
    apply List.ext_getElem?
    intro i
    by_cases h : i < A.length
    · rw [List.getElem?_map, List.getElem?_range h]
      simp only [Option.map_some, List.getD_eq_getElem?_getD]
      rw [List.getElem?_append_left h, List.getElem?_eq_getElem h]
      rfl
    · rw [List.getElem?_eq_none (by simp; omega), List.getElem?_eq_none (by omega)]
theorem size_set {W : Win} {ax z : Int} {t : Tok} : (W.setSize ax z t).size ax = z := by
  unfold Win.setSize
  by_cases h : ax = 0
  · simp [h, Win.size]
  · simp [h, Win.size]
theorem sizes_set {a b : List Kid} {W : Win} {t u : Tok} {ax z : Int} : ((a ++ (W.setSize ax z u, t) :: b).map (·.1.size ax)) = ((a ++ (W, t) :: b).map (·.1.size ax)).set a.length z := by
  rw [List.map_append, List.map_cons, List.map_append, List.map_cons, List.set_append_right _ _ (by simp)]
  simp only [List.length_map, Nat.sub_self, List.set_cons_zero]
  rw [size_set]
theorem split_at {α : Type} {l : List α} {i : Nat} (h : i < l.length) : ∃ a x b, l = a ++ x :: b ∧ a.length = i ∧ l[i]? = some x := by
  refine ⟨l.take i, l[i], l.drop (i + 1), ?_, by simp; omega, List.getElem?_eq_getElem h⟩
  rw [List.getElem_cons_drop, List.take_append_drop]
theorem Kin.at {K kc : List Kid} (h : Kin K kc) {i : Nat} {q : Kid} (hq : kc[i]? = some q) (d : Kid) : kv (K.getD i d) = kv q := by
  have e := congrArg (fun l => l[i]?) h.kvs
  simp only [List.getElem?_map, hq, Option.map_some] at e
  rw [List.getD_eq_getElem?_getD]
  cases hk : K[i]? with
  | none => rw [hk] at e; cases e
  | some x => rw [hk] at e; simp only [Option.map_some, Option.some.injEq] at e; exact e.symm
theorem set_mid_other {a b : List Kid} {p q : Kid} {j : Nat} (h : j ≠ a.length) : (a ++ q :: b)[j]? = (a ++ p :: b)[j]? := by
  by_cases hj : j < a.length
  · rw [List.getElem?_append_left hj, List.getElem?_append_left hj]
  · rw [List.getElem?_append_right (by omega), List.getElem?_append_right (by omega)]
    obtain ⟨k, hk⟩ : ∃ k, j - a.length = k + 1 := ⟨j - a.length - 1, by omega⟩
    rw [hk, List.getElem?_cons_succ, List.getElem?_cons_succ]
theorem getD_mid {a b : List Kid} {W : Win} {t : Tok} {ax : Int} : ((a ++ (W, t) :: b).map (·.1.size ax)).getD a.length 0 = W.size ax := by
  rw [List.getD_eq_getElem?_getD, List.getElem?_map, List.getElem?_append_right (Nat.le_refl _)]
  simp

end PartPlain
section PartRng

theorem ints_of : ∀ (vs : List Value) (f : Nat → Int) (n : Nat), vs.length = n → (∀ (j : Nat) (v : Value), vs[j]? = some v → ∃ t, v = .int (f j) t) → IntsAre vs ((List.range n).map f)
  | [], f, n, e, _ => by
    subst e
    exact IntsAre.nil
  | v :: r, f, n, e, h => by
    subst e
    rw [List.length_cons, List.range_succ_eq_map, List.map_cons, List.map_map]
    obtain ⟨t, rfl⟩ := h 0 v rfl
    exact IntsAre.cons _ _ (ints_of r (f ∘ Nat.succ) r.length rfl fun j v hj => h (j + 1) v hj)
section
variable {prog : Program} {w : World} {A : Around} {E : Value → Shared → Prop} {s : Shared} {h₀ : Heap} {L r : Addr} {m : Str → Option Value} {news : List (Addr × Obj)} {a b c : Int} {t₀ u₀ v₀ : Tok} {n : Nat} {Q : Value → Shared → Prop}
theorem rng_list {ns : List Int} (hh : A.handled = none) (F : Fr h₀ L s.heap m) (N : News h₀ L s.heap news) (hr : IsRange s.heap r a b c t₀ u₀ v₀) (hsmall : Builtin.Range.small a b c = true) (hn : Builtin.Range.rangeSize a b c = (n : Int)) (hz : n ≤ 2 ^ 24)
    (hns : (List.range n).map (fun (i : Nat) => a + (i : Int) * c) = ns)
    (h : ∀ D us e h' tk, Fr h₀ L h' m → News h₀ L h' ((D, listOf (List.toArray us) e) :: news) → (∀ p ∈ news, p.1 < D) → IntsAre us ns → Q (.ref D) { s with heap := h', toks := tk }) :
    wpAny (model prog w) A (call (.type "list") [.ref r]) Q E s := by
  refine call_list_range hh hr hsmall hn hz fun h' tk acc e hk hD hI => ?_
  have hD' : h'.get? s.heap.objs.size = some (listOf (List.toArray acc.toList) e) := by
    rw [Array.toArray_toList]
    exact hD
  exact h _ acc.toList e h' tk (F.keeps hk) (news_pushed F N hk hD' rfl) (fun p hp => Heap.lt_size (N p hp).1) (hns ▸ ints_of _ _ _ (by rw [Array.length_toList]; exact hI.1) fun j v hj => hI.2 j v (by rw [← hj, Array.getElem?_toList]))
end
theorem up_small {a b n : Nat} (hn : n = a + 1 + b) (h : a + b ≤ 9) : Builtin.Range.small ((a : Int) + 1) (n : Int) 1 = true := small_one (by omega) (by omega) (by omega) (by omega)
theorem up_size {a b n : Nat} (hn : n = a + 1 + b) : Builtin.Range.rangeSize ((a : Int) + 1) (n : Int) 1 = (b : Int) := by rw [rangeSize_nat]; omega
theorem up_list {a b : Nat} : (List.range b).map (fun (i : Nat) => ((a : Int) + 1) + (i : Int) * 1) = ((List.range b).map (a + 1 + ·)).map (fun i : Nat => (i : Int)) := by
  rw [List.map_map]
  exact List.map_congr_left fun i _ => by simp only [Function.comp]; omega
theorem dn_all : ∀ a : Fin 10, Builtin.Range.small ((a.1 : Int) - 1) (-1) (-1) = true ∧ Builtin.Range.rangeSize ((a.1 : Int) - 1) (-1) (-1) = (a.1 : Int) := by decide
theorem dn_small {a : Nat} (h : a ≤ 9) : Builtin.Range.small ((a : Int) - 1) (-1) (-1) = true := (dn_all ⟨a, by omega⟩).1
theorem dn_size {a : Nat} (h : a ≤ 9) : Builtin.Range.rangeSize ((a : Int) - 1) (-1) (-1) = (a : Int) := (dn_all ⟨a, by omega⟩).2
theorem dn_list {a : Nat} : (List.range a).map (fun (i : Nat) => ((a : Int) - 1) + (i : Int) * (-1)) = ((List.range a).reverse).map (fun i : Nat => (i : Int)) := by
  apply List.ext_getElem?
  intro i
  by_cases h : i < a
  · rw [List.getElem?_map, List.getElem?_range h, List.getElem?_map, List.getElem?_reverse (by simpa using h), List.length_range, List.getElem?_range (by omega)]
    simp only [Option.map_some, Option.some.injEq]
    omega
  · rw [List.getElem?_eq_none (by simp; omega), List.getElem?_eq_none (by simp; omega)]
theorem idxs_map {a b : Nat} : ((List.range b).map (a + 1 + ·)).map (fun i : Nat => (i : Int)) ++ ((List.range a).reverse).map (fun i : Nat => (i : Int)) = (idxs a b).map (fun i : Nat => (i : Int)) := by
  unfold idxs
  rw [List.map_append]

end PartRng
section PartAttr2
abbrev Tre.setlast (V : Tre) (i : Int) (t : Tok) : Tre := {V with last := i, tl := t}
abbrev Tre.setroot (V : Tre) (i : Int) (t : Tok) : Tre := {V with root := i, tr := t}
abbrev Tre.setwo (V : Tre) (o : Obj) (kvs : List (Int × Value)) : Tre := {V with wo := o, kvs := kvs}
abbrev Win.setbuf (W : Win) (v : Value) : Win := {W with buf := v}
abbrev Win.setsta (W : Win) (v : Value) : Win := {W with sta := v}
abbrev Win.setpoi (W : Win) (v : Value) : Win := {W with poi := v}
abbrev Win.sethsc (W : Win) (v : Value) : Win := {W with hsc := v}
abbrev Win.setear (W : Win) (v : Addr) : Win := {W with ear := v}
/-- what a window shows are plain values -/
structure Win.Sh (W : Win) : Prop where
  b : handedIn W.buf = true
  s : handedIn W.sta = true
  p : handedIn W.poi = true
  h : handedIn W.hsc = true
section
variable {w : World} {A : Around} {E : Value → Shared → Prop} {hp : Heap} {gg : Array GenState} {dr : Drawn} {tn : Nat} {oo : OsState} {h₀ : Heap} {L : Addr} {m : Str → Option Value} {news news' : List (Addr × Obj)} {W : Win} {V : Tre} {x d : Addr} {expr : Bool}
theorem gw_buf {Q : Value → Shared → Prop} (F : Fr h₀ L hp m) (X : (Mine.hd.heap_39 w.params).In h₀) (N : News h₀ L hp news) (h1 : (x, instObj 93 d) ∈ news) (h2 : (d, dictOf (W.es w.params) 16) ∈ news) (hs : W.Sh) (h : Q W.buf ⟨hp, gg, dr, tn + 1, oo⟩) :
    wpAny (model PySem.Challenge.rw_np0057_01.row.prog w) A (getAttr (.ref x) (Str.ofString "buffer") expr) Q E ⟨hp, gg, dr, tn, oo⟩ :=
  get_own (s := ⟨hp, gg, dr, tn, oo⟩) F X (InstAt.of_news N h1 h2) (by k_is) (by k_is) (by k_is) (by k_is) (by k_get) hs.b h
theorem gw_sta {Q : Value → Shared → Prop} (F : Fr h₀ L hp m) (X : (Mine.hd.heap_39 w.params).In h₀) (N : News h₀ L hp news) (h1 : (x, instObj 93 d) ∈ news) (h2 : (d, dictOf (W.es w.params) 16) ∈ news) (hs : W.Sh) (h : Q W.sta ⟨hp, gg, dr, tn + 1, oo⟩) :
    wpAny (model PySem.Challenge.rw_np0057_01.row.prog w) A (getAttr (.ref x) (Str.ofString "start") expr) Q E ⟨hp, gg, dr, tn, oo⟩ :=
  get_own (s := ⟨hp, gg, dr, tn, oo⟩) F X (InstAt.of_news N h1 h2) (by k_is) (by k_is) (by k_is) (by k_is) (by k_get) hs.s h
theorem gw_poi {Q : Value → Shared → Prop} (F : Fr h₀ L hp m) (X : (Mine.hd.heap_39 w.params).In h₀) (N : News h₀ L hp news) (h1 : (x, instObj 93 d) ∈ news) (h2 : (d, dictOf (W.es w.params) 16) ∈ news) (hs : W.Sh) (h : Q W.poi ⟨hp, gg, dr, tn + 1, oo⟩) :
    wpAny (model PySem.Challenge.rw_np0057_01.row.prog w) A (getAttr (.ref x) (Str.ofString "point") expr) Q E ⟨hp, gg, dr, tn, oo⟩ :=
  get_own (s := ⟨hp, gg, dr, tn, oo⟩) F X (InstAt.of_news N h1 h2) (by k_is) (by k_is) (by k_is) (by k_is) (by k_get) hs.p h
theorem gw_hsc {Q : Value → Shared → Prop} (F : Fr h₀ L hp m) (X : (Mine.hd.heap_39 w.params).In h₀) (N : News h₀ L hp news) (h1 : (x, instObj 93 d) ∈ news) (h2 : (d, dictOf (W.es w.params) 16) ∈ news) (hs : W.Sh) (h : Q W.hsc ⟨hp, gg, dr, tn + 1, oo⟩) :
    wpAny (model PySem.Challenge.rw_np0057_01.row.prog w) A (getAttr (.ref x) (Str.ofString "hscroll") expr) Q E ⟨hp, gg, dr, tn, oo⟩ :=
  get_own (s := ⟨hp, gg, dr, tn, oo⟩) F X (InstAt.of_news N h1 h2) (by k_is) (by k_is) (by k_is) (by k_is) (by k_get) hs.h h
theorem gw_ear {Q : Value → Shared → Prop} (F : Fr h₀ L hp m) (X : (Mine.hd.heap_39 w.params).In h₀) (N : News h₀ L hp news) (h1 : (x, instObj 93 d) ∈ news) (h2 : (d, dictOf (W.es w.params) 16) ∈ news) (h : Q (.ref W.ear) ⟨hp, gg, dr, tn + 1, oo⟩) :
    wpAny (model PySem.Challenge.rw_np0057_01.row.prog w) A (getAttr (.ref x) (Str.ofString "earlier") expr) Q E ⟨hp, gg, dr, tn, oo⟩ :=
  get_own (s := ⟨hp, gg, dr, tn, oo⟩) F X (InstAt.of_news N h1 h2) (by k_is) (by k_is) (by k_is) (by k_is) (by k_get) rfl h
theorem sw_buf {Q : Unit → Shared → Prop} {v : Value} (F : Fr h₀ L hp m) (X : (Mine.hd.heap_39 w.params).In h₀) (N : News h₀ L hp news) (h1 : (x, instObj 93 d) ∈ news) (h2 : (d, dictOf (W.es w.params) 16) ∈ news)
    (U : Upd d (dictOf (W.es w.params) 16) (dictOf ((W.setbuf v).es w.params) 16) news news')
    (h : ∀ h', Fr h₀ L h' m → News h₀ L h' news' → Q () ⟨h', gg, dr, tn + 2, oo⟩) :
    wpAny (model PySem.Challenge.rw_np0057_01.row.prog w) A (setAttr (.ref x) (Str.ofString "buffer") v) Q E ⟨hp, gg, dr, tn, oo⟩ :=
  set_dict (s := ⟨hp, gg, dr, tn, oo⟩) F X N (InstAt.of_news N h1 h2) rfl (by k_is) (by k_is) (by k_is) (by k_is) (by k_get) (by k_put) U (by show (16 : Nat) ≤ 1000; decide) h
theorem sw_sta {Q : Unit → Shared → Prop} {v : Value} (F : Fr h₀ L hp m) (X : (Mine.hd.heap_39 w.params).In h₀) (N : News h₀ L hp news) (h1 : (x, instObj 93 d) ∈ news) (h2 : (d, dictOf (W.es w.params) 16) ∈ news)
    (U : Upd d (dictOf (W.es w.params) 16) (dictOf ((W.setsta v).es w.params) 16) news news')
    (h : ∀ h', Fr h₀ L h' m → News h₀ L h' news' → Q () ⟨h', gg, dr, tn + 2, oo⟩) :
    wpAny (model PySem.Challenge.rw_np0057_01.row.prog w) A (setAttr (.ref x) (Str.ofString "start") v) Q E ⟨hp, gg, dr, tn, oo⟩ :=
  set_dict (s := ⟨hp, gg, dr, tn, oo⟩) F X N (InstAt.of_news N h1 h2) rfl (by k_is) (by k_is) (by k_is) (by k_is) (by k_get) (by k_put) U (by show (16 : Nat) ≤ 1000; decide) h
theorem sw_poi {Q : Unit → Shared → Prop} {v : Value} (F : Fr h₀ L hp m) (X : (Mine.hd.heap_39 w.params).In h₀) (N : News h₀ L hp news) (h1 : (x, instObj 93 d) ∈ news) (h2 : (d, dictOf (W.es w.params) 16) ∈ news)
    (U : Upd d (dictOf (W.es w.params) 16) (dictOf ((W.setpoi v).es w.params) 16) news news')
    (h : ∀ h', Fr h₀ L h' m → News h₀ L h' news' → Q () ⟨h', gg, dr, tn + 2, oo⟩) :
    wpAny (model PySem.Challenge.rw_np0057_01.row.prog w) A (setAttr (.ref x) (Str.ofString "point") v) Q E ⟨hp, gg, dr, tn, oo⟩ :=
  set_dict (s := ⟨hp, gg, dr, tn, oo⟩) F X N (InstAt.of_news N h1 h2) rfl (by k_is) (by k_is) (by k_is) (by k_is) (by k_get) (by k_put) U (by show (16 : Nat) ≤ 1000; decide) h
theorem sw_hsc {Q : Unit → Shared → Prop} {v : Value} (F : Fr h₀ L hp m) (X : (Mine.hd.heap_39 w.params).In h₀) (N : News h₀ L hp news) (h1 : (x, instObj 93 d) ∈ news) (h2 : (d, dictOf (W.es w.params) 16) ∈ news)
    (U : Upd d (dictOf (W.es w.params) 16) (dictOf ((W.sethsc v).es w.params) 16) news news')
    (h : ∀ h', Fr h₀ L h' m → News h₀ L h' news' → Q () ⟨h', gg, dr, tn + 2, oo⟩) :
    wpAny (model PySem.Challenge.rw_np0057_01.row.prog w) A (setAttr (.ref x) (Str.ofString "hscroll") v) Q E ⟨hp, gg, dr, tn, oo⟩ :=
  set_dict (s := ⟨hp, gg, dr, tn, oo⟩) F X N (InstAt.of_news N h1 h2) rfl (by k_is) (by k_is) (by k_is) (by k_is) (by k_get) (by k_put) U (by show (16 : Nat) ≤ 1000; decide) h
theorem sw_ear {Q : Unit → Shared → Prop} {c : Addr} (F : Fr h₀ L hp m) (X : (Mine.hd.heap_39 w.params).In h₀) (N : News h₀ L hp news) (h1 : (x, instObj 93 d) ∈ news) (h2 : (d, dictOf (W.es w.params) 16) ∈ news)
    (U : Upd d (dictOf (W.es w.params) 16) (dictOf ((W.setear c).es w.params) 16) news news')
    (h : ∀ h', Fr h₀ L h' m → News h₀ L h' news' → Q () ⟨h', gg, dr, tn + 2, oo⟩) :
    wpAny (model PySem.Challenge.rw_np0057_01.row.prog w) A (setAttr (.ref x) (Str.ofString "earlier") (.ref c)) Q E ⟨hp, gg, dr, tn, oo⟩ :=
  set_dict (s := ⟨hp, gg, dr, tn, oo⟩) F X N (InstAt.of_news N h1 h2) rfl (by k_is) (by k_is) (by k_is) (by k_is) (by k_get) (by k_put) U (by show (16 : Nat) ≤ 1000; decide) h
theorem sv_last {Q : Unit → Shared → Prop} {i : Int} {t : Tok} (F : Fr h₀ L hp m) (X : (Mine.hd.heap_39 w.params).In h₀) (N : News h₀ L hp news) (h1 : (x, instObj 164 d) ∈ news) (h2 : (d, dictOf (V.es w.params) 7) ∈ news)
    (U : Upd d (dictOf (V.es w.params) 7) (dictOf ((V.setlast i t).es w.params) 7) news news')
    (h : ∀ h', Fr h₀ L h' m → News h₀ L h' news' → Q () ⟨h', gg, dr, tn + 2, oo⟩) :
    wpAny (model PySem.Challenge.rw_np0057_01.row.prog w) A (setAttr (.ref x) (Str.ofString "last") (.int i t)) Q E ⟨hp, gg, dr, tn, oo⟩ :=
  set_dict (s := ⟨hp, gg, dr, tn, oo⟩) F X N (InstAt.of_news N h1 h2) rfl (by k_is) (by k_is) (by k_is) (by k_is) (by k_get) (by k_put) U (by show (7 : Nat) ≤ 1000; decide) h
theorem sv_root {Q : Unit → Shared → Prop} {i : Int} {t : Tok} (F : Fr h₀ L hp m) (X : (Mine.hd.heap_39 w.params).In h₀) (N : News h₀ L hp news) (h1 : (x, instObj 164 d) ∈ news) (h2 : (d, dictOf (V.es w.params) 7) ∈ news)
    (U : Upd d (dictOf (V.es w.params) 7) (dictOf ((V.setroot i t).es w.params) 7) news news')
    (h : ∀ h', Fr h₀ L h' m → News h₀ L h' news' → Q () ⟨h', gg, dr, tn + 2, oo⟩) :
    wpAny (model PySem.Challenge.rw_np0057_01.row.prog w) A (setAttr (.ref x) (Str.ofString "root") (.int i t)) Q E ⟨hp, gg, dr, tn, oo⟩ :=
  set_dict (s := ⟨hp, gg, dr, tn, oo⟩) F X N (InstAt.of_news N h1 h2) rfl (by k_is) (by k_is) (by k_is) (by k_is) (by k_get) (by k_put) U (by show (7 : Nat) ≤ 1000; decide) h
theorem gt_last {Q : Value → Shared → Prop} (F : Fr h₀ L hp m) (X : (Mine.hd.heap_39 w.params).In h₀) (N : News h₀ L hp news) (h1 : (x, instObj 164 d) ∈ news) (h2 : (d, dictOf (V.es w.params) 7) ∈ news) (h : Q (.int V.last V.tl) ⟨hp, gg, dr, tn + 1, oo⟩) :
    wpAny (model PySem.Challenge.rw_np0057_01.row.prog w) A (getAttr (.ref x) (Str.ofString "last") expr) Q E ⟨hp, gg, dr, tn, oo⟩ :=
  get_own (s := ⟨hp, gg, dr, tn, oo⟩) F X (InstAt.of_news N h1 h2) (by k_is) (by k_is) (by k_is) (by k_is) (by k_get) rfl h
end

end PartAttr2
section PartExc1

/-- a tree that keeps every object's dict -/
def Gentle {α : Type} : Sem α → Prop
  | .pure _ => True
  | .raise _ => True
  | .unsupported _ => True
  | .finish _ => True
  | .rule _ k => Gentle (k ())
  | .at _ k => Gentle (k ())
  | .load _ _ k => ∀ o, Gentle (k o)
  | .update _ _ f k => (∀ o, (f o).dict = o.dict ∧ (o.isFreed = false → (f o).isFreed = false)) ∧ Gentle (k ())
  | .loadIfAlive _ k => ∀ o, Gentle (k o)
  | .point _ k => Gentle (k ())
  | .alloc _ k => ∀ a, Gentle (k a)
  | .fresh k => ∀ a, Gentle (k a)
  | .ask k => ∀ a, Gentle (k a)
  | .stack k => ∀ a, Gentle (k a)
  | _ => False
theorem Gentle.bind {α β : Type} {t : Sem α} {f : α → Sem β} (h : Gentle t) (hf : ∀ a, Gentle (f a)) : Gentle (t >>= f) := by
  show Gentle (Sem.bind t f)
  induction t with
  | pure a => exact hf a
  | raise _ => exact trivial
  | unsupported _ => exact trivial
  | finish _ => exact trivial
  | rule _ k ih => exact ih () h
  | «at» _ k ih => exact ih () h
  | load _ _ k ih => exact fun o => ih o (h o)
  | update _ _ g k ih => exact ⟨h.1, ih () h.2⟩
  | loadIfAlive _ k ih => exact fun o => ih o (h o)
  | point _ k ih => exact ih () h
  | alloc _ k ih => exact fun o => ih o (h o)
  | fresh k ih => exact fun o => ih o (h o)
  | ask k ih => exact fun o => ih o (h o)
  | stack k ih => exact fun o => ih o (h o)
  | _ => exact h.elim
def DK (e : Addr) (dd : Option Addr) (h : Heap) : Prop := ∃ o, h.get? e = some o ∧ o.dict = dd
theorem gentle_wp {α : Type} {M : Model} {Γ : Ctx} {e : Addr} {dd : Option Addr} {t : Sem α} (g : Gentle t) : ∀ {Q : α → Pos → Shared → Prop} {E : Value → Pos → Shared → Prop} {p : Pos} {s : Shared},
    Sem.wp M Γ t Q E p s → DK e dd s.heap → Sem.wp M Γ t (fun a p s' => Q a p s' ∧ DK e dd s'.heap) (fun x p s' => E x p s' ∧ DK e dd s'.heap) p s := by
  induction t with
  | pure a => intro Q E p s h d; rw [Sem.wp] at h ⊢; exact ⟨h, d⟩
  | raise _ => intro Q E p s h d; rw [Sem.wp] at h ⊢; exact ⟨h, d⟩
  | unsupported _ => intro Q E p s h d; rw [Sem.wp] at h; exact h.elim
  | finish _ => intro Q E p s h d; rw [Sem.wp] at h; exact h.elim
  | rule _ k ih => intro Q E p s h d; rw [Sem.wp] at h ⊢; exact ih () g h d
  | «at» _ k ih => intro Q E p s h d; rw [Sem.wp] at h ⊢; exact ih () g h d
  | load a _ k ih =>
    intro Q E p s h d
    rw [Sem.wp] at h ⊢
    obtain ⟨o, ho, h⟩ := h
    exact ⟨o, ho, ih o (g o) h d⟩
  | update a _ f k ih =>
    intro Q E p s h d
    rw [Sem.wp] at h ⊢
    refine ⟨h.1, ih () g.2 h.2 ?_⟩
    obtain ⟨o, ho, hd⟩ := d
    by_cases ha : a = e
    · subst ha
      have hfr := (Heap.get?_some_iff.mp ho).2
      exact ⟨f o, Heap.get?_update_self f ho ((g.1 o).2 hfr), (g.1 o).1.trans hd⟩
    · exact ⟨o, (Heap.get?_update_other _ f ha).trans ho, hd⟩
  | loadIfAlive a k ih => intro Q E p s h d; rw [Sem.wp] at h ⊢; exact ih _ (g _) h d
  | point _ k ih => intro Q E p s h d; rw [Sem.wp] at h ⊢; exact ih () g h d
  | alloc o k ih =>
    intro Q E p s h d
    rw [Sem.wp] at h ⊢
    obtain ⟨oe, ho, hd⟩ := d
    exact ih _ (g _) h ⟨oe, Heap.get?_push_of_some _ ho, hd⟩
  | fresh k ih => intro Q E p s h d; rw [Sem.wp] at h ⊢; exact ih _ (g _) h d
  | ask k ih => intro Q E p s h d; rw [Sem.wp] at h ⊢; exact ih _ (g _) h d
  | stack k ih => intro Q E p s h d; rw [Sem.wp] at h ⊢; exact ih _ (g _) h d
  | _ => exact g.elim
theorem gentle_any {α : Type} {M : Model} {A : Around} {e : Addr} {dd : Option Addr} {t : Sem α} {Q : α → Shared → Prop} {E : Value → Shared → Prop} {s : Shared} (g : Gentle t) (h : wpAny M A t Q E s) (d : DK e dd s.heap) :
    wpAny M A t (fun a s' => Q a s' ∧ DK e dd s'.heap) (fun x s' => E x s' ∧ DK e dd s'.heap) s := fun Γ p hΓ => gentle_wp g (h Γ p hΓ) d

theorem g_pure {α : Type} {a : α} : Gentle (pure a : Sem α) := trivial
theorem g_uns {α : Type} {w : String} : Gentle (unsupported w : Sem α) := trivial
theorem g_load {a : Addr} : Gentle (load a) := fun _ => trivial
theorem g_stack : Gentle stack := fun _ => trivial
theorem g_alloc {o : Obj} : Gentle (alloc o) := fun _ => trivial
theorem g_fieldsOf {v : Value} : Gentle (fieldsOf v) := by
  unfold fieldsOf
  split
  · refine g_load.bind fun o => ?_
    split <;> trivial
  · trivial
theorem g_field {v : Value} {i : Nat} : Gentle (field v i) := by
  unfold field
  refine g_fieldsOf.bind fun vs => ?_
  split <;> trivial
theorem g_mapFields {f : Array Value → Array Value} : ∀ o : Obj, (Obj.mapFields f o).dict = o.dict ∧ (o.isFreed = false → (Obj.mapFields f o).isFreed = false) := by
  rintro ⟨c, d, dt, sl⟩
  unfold Obj.mapFields
  split
  · rename_i h
    cases h
    exact ⟨rfl, fun h => h⟩
  · exact ⟨rfl, fun h => h⟩
theorem g_lookBehind {a : Addr} {pt : Option Value} : Gentle (lookBehind a pt) := by
  unfold lookBehind
  refine Gentle.bind (fun _ => trivial) fun o => ?_
  split <;> trivial
theorem g_updateFields {a : Addr} {f : Array Value → Array Value} : Gentle (updateFields a f) := by
  unfold updateFields
  refine g_load.bind fun o => ?_
  split
  · exact Gentle.bind (show Gentle (update a (Obj.mapFields f)) from ⟨g_mapFields, trivial⟩) fun _ => g_lookBehind
  · trivial
theorem g_setField {v : Value} {i : Nat} {x : Value} : Gentle (setField v i x) := by
  unfold setField
  split
  · unfold updateField
    refine g_load.bind fun o => ?_
    split
    · split
      · exact show Gentle (update _ _) from ⟨g_mapFields, trivial⟩
      · trivial
    · trivial
  · trivial
theorem g_newFields {ty : String} {vs : List Value} : Gentle (newFields ty vs) := by
  unfold newFields newObj newObjAsIs
  dsimp only
  split
  · trivial
  · exact Gentle.bind g_alloc fun a => trivial
theorem g_behindIsImport {env : Env} {outer : List Env} : Gentle (behindIsImport env outer) := by
  unfold behindIsImport
  split
  · trivial
  · split
    · trivial
    · exact g_field.bind fun _ => trivial
theorem g_keptBack {env : Env} {b : Bool} : ∀ {l : List Env}, Gentle (keptBack env b l)
  | [] => by
    unfold keptBack
    split
    · split
      · trivial
      · unfold underTheClaimsCaller
        exact Gentle.bind (g_stack.bind fun _ => trivial) fun _ => trivial
    · trivial
  | _ :: _ => trivial
theorem g_readyFrames : ∀ {l : List Env}, Gentle (readyFrames l)
  | [] => trivial
  | env :: outer => by
    unfold readyFrames
    split
    · refine g_load.bind fun o => ?_
      split
      · trivial
      · refine g_behindIsImport.bind fun b => g_keptBack.bind fun k => Gentle.bind (show Gentle (update _ _) from ⟨fun o => ⟨rfl, fun h => by obtain ⟨c, d, dt, sl⟩ := o; cases dt <;> exact h⟩, trivial⟩) fun _ => g_readyFrames
    · trivial
theorem g_frameObject : ∀ {l : List Env}, Gentle (frameObject l)
  | [] => trivial
  | env :: outer => by
    unfold frameObject
    exact g_readyFrames.bind fun _ => trivial
theorem g_frameOf {env : Env} : Gentle (PySem.frameOf env) := by
  unfold PySem.frameOf frameEnvs
  refine Gentle.bind (g_stack.bind fun _ => trivial) fun l => g_frameObject.bind fun f => ?_
  split <;> trivial
theorem g_entryPlaceOf {f : Addr} {b : Bool} : Gentle (entryPlaceOf f b) := by
  unfold entryPlaceOf
  refine g_stack.bind fun acts => ?_
  split <;> trivial
theorem g_setFlight {e : Value} {f : Option Addr} : Gentle (setFlight e f) := by
  unfold setFlight
  refine g_field.bind fun tb => ?_
  split
  · exact g_setField
  · trivial
theorem g_noteFrame {e : Value} {env : Env} : Gentle (noteFrame e env) := by
  have tail : ∀ (f : Addr) (head : Value), Gentle (do setField e 1 (← EntryCells.newEntry head (← PySem.frameOf env) .none (rawInt f) .none (← entryPlaceOf f (head != .none))) : Sem Unit) := fun f head =>
    g_frameOf.bind fun _ => g_entryPlaceOf.bind fun _ => Gentle.bind (by unfold EntryCells.newEntry; exact g_newFields) fun _ => g_setField
  unfold noteFrame
  split
  · refine g_field.bind fun head => ?_
    split
    · refine g_field.bind fun x => ?_
      split
      · trivial
      · exact g_setField.bind fun _ => tail _ _
    · exact tail _ _
  · trivial
theorem g_leaving {e : Value} {env : Env} : Gentle (leaving env e) := g_noteFrame.bind fun _ => g_setFlight

end PartExc1
section PartExc2

def noIn (K : Frag) (ns : Addr) (x : String) : Bool := nsIn K ns (Str.ofString x) == some none
def lsIn (K : Frag) : Bool := match K.lookup 38 with
  | some ⟨.type "type", _, .cls cd, sl⟩ => (match cd.mro, sl.toList with
    | [.ref C', .type "Exception", .type "BaseException", .type "object"], [_, _, _, _, some (.builtin n), _] => C' == 38 && n == "Exception.__new__" && !cd.hasDel && cd.hasDict && nsOkIn K cd.ns && nsIn K cd.ns (Str.ofString "__init__") == some (some (.ref 35)) &&
        noIn K cd.ns "__setattr__" && noIn K cd.ns "symbol" && noIn K cd.ns "data" && noIn K cd.ns "__getattribute__" && noIn K cd.ns "__getattr__"
    | _, _ => false)
  | _ => false
theorem ns_some {K : Frag} {h : Heap} {N : Addr} {mg : Str → Option Value} {n : Str} {v : Value} (X : K.In h) (G : h.Ns N mg) (e : nsIn K N n = some (some v)) : mg n = some v := by
  obtain ⟨o, es, ep, ho, hd, _, hf⟩ := G
  unfold nsIn at e
  split at e
  · rename_i q
    have := X _ _ q
    rw [ho] at this
    cases this
    cases hd
    split at e
    · rename_i en he
      cases e
      rw [← hf]
      unfold nsFind findBy
      rw [← Array.find?_toList, he]
      rfl
    · split at e <;> cases e
  · cases e
/-- the class LispSignal as it lies in the heap -/
def LsAt (h : Heap) (nm q : Str) (N : Addr) (bs : List Value) (sn : List Str) (sub : List Value) (ab : Bool) (col : Option Bool) (dd : Option Addr) (k0 k1 k2 k3 k5 : Option Value) (mN : Str → Option Value) : Prop :=
  h.get? 38 = some (excClassObj nm q 38 N bs [.type "Exception", .type "BaseException", .type "object"] true sn sub ab col dd k0 k1 k2 k3 k5 "Exception.__new__") ∧ h.Ns N mN ∧ mN (Str.ofString "__init__") = some (.ref 35) ∧
    mN (Str.ofString "__setattr__") = none ∧ mN (Str.ofString "symbol") = none ∧ mN (Str.ofString "data") = none ∧ mN (Str.ofString "__getattribute__") = none ∧ mN (Str.ofString "__getattr__") = none
theorem ls_of {K : Frag} {h : Heap} (X : K.In h) (e : lsIn K = true) : ∃ nm q N bs sn sub ab col dd k0 k1 k2 k3 k5 mN, LsAt h nm q N bs sn sub ab col dd k0 k1 k2 k3 k5 mN := by
  unfold lsIn at e
  split at e
  · rename_i dd cd sl ho
    split at e
    · rename_i C' k0 k1 k2 k3 n k5 hm hs
      simp only [Bool.and_eq_true, beq_iff_eq, Bool.not_eq_true'] at e
      obtain ⟨⟨⟨⟨⟨⟨⟨⟨⟨⟨rfl, rfl⟩, hdel⟩, hdict⟩, hok⟩, hni⟩, h1⟩, h2⟩, h3⟩, h4⟩, h5⟩ := e
      obtain ⟨nm, bs, mro, ns, qn, hd, sn, sub, ab, col, del⟩ := cd
      dsimp only at hm hdel hok hni hdict h1 h2 h3 h4 h5
      subst hm hdel hdict
      have hsl : sl = #[k0, k1, k2, k3, some (.builtin "Exception.__new__"), k5] := by
        obtain ⟨l⟩ := sl
        simp only at hs
        rw [hs]
      subst hsl
      have G : h.Ns ns (h.nsMap ns) := .of_isNs (isNs_of_in X hok)
      exact ⟨nm, qn, ns, bs, sn, sub, ab, col, dd, k0, k1, k2, k3, k5, _, X _ _ ho, G, ns_some X G hni, ns_none_of X G (beq_iff_eq.mp h1), ns_none_of X G (beq_iff_eq.mp h2), ns_none_of X G (beq_iff_eq.mp h3), ns_none_of X G (beq_iff_eq.mp h4), ns_none_of X G (beq_iff_eq.mp h5)⟩
    · cases e
  · cases e
theorem ls_in (P : Params) : lsIn (Mine.hd.heap_39 P) = true := by kernel_rfl

theorem lk_sym : typeLookup (.type "Exception") (Str.ofString "symbol") = pure none := by rw [typeLookup_type, builtinLookup_eq_fast]; kernel_rfl
theorem lk_dat : typeLookup (.type "Exception") (Str.ofString "data") = pure none := by rw [typeLookup_type, builtinLookup_eq_fast]; kernel_rfl
section
variable {prog : Program} {w : World} {A : Around} {E : Value → Shared → Prop} {h : Heap} {g : Array GenState} {d : Drawn} {t : Nat} {os : OsState}
variable {nm q : Str} {N a dx : Addr} {o : Obj} {bs : List Value} {sn : List Str} {sub : List Value} {ab : Bool} {col : Option Bool} {dd : Option Addr} {k0 k1 k2 k3 k5 : Option Value} {mN mA : Str → Option Value} {name : Str} {v : Value}
theorem ls_get_entry {tk : Tok} {Q : Fin → Shared → Prop} (C : LsAt h nm q N bs sn sub ab col dd k0 k1 k2 k3 k5 mN) (hna : mN name = none) (hB : typeLookup (.type "Exception") name = pure none)
    (hx : h.get? a = some o) (hc : o.cls = .ref 38) (hnc : ∀ c, o.data ≠ .cls c) (hdx : o.dict = some dx) (hns : h.Ns dx mA) (hv : mA name = some v) (hq : Q (.done (.ret v)) ⟨h, g, d, t, os⟩) :
    wpAny (model prog w) A (Builtin.«object.__getattribute__» ⟨[.ref a, .str name tk], []⟩) Q E ⟨h, g, d, t, os⟩ := by
  obtain ⟨hC, hn, _, _, _, _, hg, hga⟩ := C
  unfold Builtin.«object.__getattribute__»
  repeat (first | (with_reducible refine wpAny_loadPart_at hx ?_; rw [hc]) | (with_reducible refine wpAny_typeLookup_exc hC hn PySem.F.store_Exception.mro hB ?_; rw [hna]) | wp_step)
  split
  · rename_i c hcd
    exact absurd hcd (hnc c)
  unfold instanceDict
  repeat (first | (with_reducible refine wpAny_loadPart_at hx ?_; rw [hc]) | with_reducible refine wpAny_loadPart_at hC ?_ | wp_step)
  rw [hdx]
  repeat (first | (with_reducible refine wpAny_nsGet hns ?_; rw [hv]) | wp_step)
  exact hq
theorem ls_check_ga {M : Model} {nameV : Value} {Q : Unit → Shared → Prop} (C : LsAt h nm q N bs sn sub ab col dd k0 k1 k2 k3 k5 mN) (hx : h.get? a = some o) (hc : o.cls = .ref 38) (hq : Q () ⟨h, g, d, t, os⟩) :
    wpAny M A (checkBuiltinCall "BaseException.__getattribute__" ⟨[.ref a, nameV], []⟩) Q E ⟨h, g, d, t, os⟩ := by
  obtain ⟨hC, _⟩ := C
  have hk : builtinKind "BaseException.__getattribute__" = some .slot := by decide +kernel
  have hsplit : splitId "BaseException.__getattribute__" = some ("BaseException", "__getattribute__") := by decide +kernel
  have hcB : (Value.ref 38 :: [Value.type "Exception", .type "BaseException", .type "object"]).contains (.type "BaseException") = true := by decide
  have ha := PySem.F.args_bexc_ga (.ref a) nameV
  simp only [checkBuiltinCall, hk, hsplit]
  refine wpAny_bind ?_
  · unfold isInstance
    repeat (first | (with_reducible refine wpAny_loadPart_at hx ?_; rw [hc]) | (with_reducible refine wpAny_isSubtype_exc hC ?_; rw [hcB]) | wp_step)
    exact hq
theorem ls_get {expr : Bool} {Q : Value → Shared → Prop} (C : LsAt h nm q N bs sn sub ab col dd k0 k1 k2 k3 k5 mN) (hna : mN name = none) (hB : typeLookup (.type "Exception") name = pure none)
    (hx : h.get? a = some o) (hc : o.cls = .ref 38) (hnc : ∀ c, o.data ≠ .cls c) (hdx : o.dict = some dx) (hns : h.Ns dx mA) (hv : mA name = some v) (hh : handedOut v = pure v) (hq : Q v ⟨h, g, d, t + 1, os⟩) :
    wpAny (model prog w) A (getAttr (.ref a) name expr) Q E ⟨h, g, d, t, os⟩ := by
  have C' := C
  obtain ⟨hC, hn, _, _, _, _, hg, hga⟩ := C
  have FB := PySem.F.attrBase_Exception
  have f3 := FB.ga.bind (.ref a)
  have hx0 : (expr && onTheHeap (Value.builtin "BaseException.__getattribute__")) = false := by cases expr <;> rfl
  have hx2 : (Value.builtin "BaseException.__getattribute__" == Value.builtin "object.__getattribute__") = false := by decide +kernel
  have hx1 : (onTheHeap (Value.ref 38) && Value.builtin "BaseException.__getattribute__" == Value.builtin "object.__getattribute__") = false := by rw [hx2]; rfl
  unfold getAttr getAttrBy
  repeat (any_goals (first | assumption | (with_reducible refine wpAny_loadPart_at hx ?_; rw [hc]) | (with_reducible refine wpAny_typeLookup_exc hC hn FB.mro FB.ga.lookup ?_; rw [hg]) | (with_reducible refine wpAny_typeLookup_exc hC hn FB.mro FB.noGetattr ?_; rw [hga]) | wp_step))
  refine codeAny_call_builtin FB.ga.plain PySem.F.entry_bexc_ga (ls_check_ga C' hx hc (ls_get_entry C' hna hB hx hc hnc hdx hns hv ?_))
  show wpAny (model prog w) A (handedOut v) Q E _
  rw [hh]
  exact wpAny_pure hq
end

section
variable {prog : Program} {w : World} {A : Around} {E : Value → Shared → Prop} {h : Heap} {g : Array GenState} {d : Drawn} {t : Nat} {os : OsState}
variable {nm q : Str} {N x : Addr} {o : Obj} {bs : List Value} {sn : List Str} {sub : List Value} {ab : Bool} {col : Option Bool} {dd : Option Addr} {k0 k1 k2 k3 k5 : Option Value} {mN : Str → Option Value} {name : Str} {v : Value}
open PySem.Builtin PySem.Builtin.ObjectAttr in
theorem ls_set_entry {tk : Tok} {Q : Fin → Shared → Prop} (C : LsAt h nm q N bs sn sub ab col dd k0 k1 k2 k3 k5 mN) (hna : mN name = none) (hB : typeLookup (.type "Exception") name = pure none)
    (hx : h.get? x = some o) (hc : o.cls = .ref 38) (hnc : ∀ c, o.data ≠ .cls c) (hfr : ∀ z, ({ o with dict := z } : Obj).isFreed = false) (hdn : o.dict = none)
    (hq : ∀ h' tk', h'.get? x = some { o with dict := some h.objs.size } → h'.Ns1 h.objs.size (fun y => if y = name then some v else none) → (∀ b ob, b ≠ x → h.get? b = some ob → h'.get? b = some ob) → Q (.done (.ret .none)) ⟨h', g, d, tk', os⟩) :
    wpAny (model prog w) A (Builtin.«object.__setattr__» ⟨[.ref x, .str name tk, v], []⟩) Q E ⟨h, g, d, t, os⟩ := by
  obtain ⟨hC, hn, _⟩ := C
  have SF := PySem.F.store_Exception
  have hpass := SF.passes (.ref x)
  unfold Builtin.«object.__setattr__»
  repeat (first | rw [refuse_eq] | (rw [refuseLoop_ref, hpass]) | (with_reducible refine wpAny_loadPart_at hx ?_; rw [hc]) | with_reducible refine wpAny_mroOf_exc hC ?_ | (with_reducible refine wpAny_typeLookup_exc hC hn SF.mro hB ?_; rw [hna]) | wp_step)
  rw [hdn, if_neg (by simp [typeHasDict])]
  split
  · rename_i hcd
    cases hcd
  split
  · rename_i c hcd
    exact absurd hcd (hnc c)
  have hx₁ : (h.push { cls := .type "dict", data := .dict #[] }).get? x = some o := Heap.get?_push_of_some _ hx
  have hxs : x ≠ h.objs.size := Nat.ne_of_lt (Heap.lt_size hx)
  refine wpAny_bind (wpAny_alloc' (wpAny_bind (wpAny_update' hx₁ (wpAny_pure ?_))))
  have hgd : ((h.push { cls := .type "dict", data := .dict #[] }).update x fun o => { cls := o.cls, dict := some h.objs.size, data := o.data, slots := o.slots }).get? h.objs.size = some { cls := .type "dict", data := .dict #[] } :=
    (Heap.get?_update_other _ _ hxs).trans (Heap.get?_push_at rfl rfl)
  have hnd : ((h.push { cls := .type "dict", data := .dict #[] }).update x fun o => { cls := o.cls, dict := some h.objs.size, data := o.data, slots := o.slots }).Ns h.objs.size (fun _ => none) :=
    ⟨_, #[], _, hgd, rfl, fun e he => absurd he (by simp), fun _ => rfl⟩
  show wpAny _ _ (storeInDict h.objs.size (.str name tk) name v) _ _ _
  unfold storeInDict newKeyGuard
  refine wpAny_bind (wpAny_pure (wpAny_bind (wpAny_nsSet1 (Heap.Ns1.of_empty hnd) fun h' hn' hs => ?_)))
  obtain ⟨oD, esD, epD, hoD, hdD, hcD⟩ := hn'.count (Within.cons name v Within.nil)
  refine wpAny_bind (wpAny_lookBehind hoD (by rw [hdD]; exact pastItsLine_dict (Nat.le_trans hcD (by rw [List.length_cons, List.length_nil, sizeLine_eq]; omega))) ?_)
  wp_walk
  refine hq h' _ ?_ hn' fun b ob hb e => ?_
  · exact (hs.2 x hxs).trans (Heap.get?_update_self (fun o => { cls := o.cls, dict := some h.objs.size, data := o.data, slots := o.slots }) hx₁ (hfr _))
  · exact (hs.2 b (Nat.ne_of_lt (Heap.lt_size e))).trans ((Heap.get?_update_other _ _ (Ne.symm hb)).trans (Heap.get?_push_of_some _ e))
theorem ls_set_call {tk : Tok} {R : Result → Shared → Prop} {sa owner : String} (SF : StoreFacts "Exception" [.type "Exception", .type "BaseException", .type "object"] sa owner) (C : LsAt h nm q N bs sn sub ab col dd k0 k1 k2 k3 k5 mN) (hna : mN name = none) (hB : typeLookup (.type "Exception") name = pure none)
    (hx : h.get? x = some o) (hc : o.cls = .ref 38) (hnc : ∀ c, o.data ≠ .cls c) (hfr : ∀ z, ({ o with dict := z } : Obj).isFreed = false) (hdn : o.dict = none)
    (hq : ∀ h' tk', h'.get? x = some { o with dict := some h.objs.size } → h'.Ns1 h.objs.size (fun y => if y = name then some v else none) → (∀ b ob, b ≠ x → h.get? b = some ob → h'.get? b = some ob) → R (.ok (.ret .none)) ⟨h', g, d, tk', os⟩) :
    codeAny (model prog w) A (.call (.builtin sa) ⟨[.ref x, .str name tk, v], []⟩) R ⟨h, g, d, t, os⟩ :=
  codeAny_call_builtin SF.slot.plain SF.entry (wpAny_check_sa SF C.1 hx hc (ls_set_entry C hna hB hx hc hnc hfr hdn hq))
set_option maxHeartbeats 400000 in
theorem ls_set_new {Q : Unit → Shared → Prop} (C : LsAt h nm q N bs sn sub ab col dd k0 k1 k2 k3 k5 mN) (hna : mN name = none) (hB : typeLookup (.type "Exception") name = pure none)
    (hx : h.get? x = some o) (hc : o.cls = .ref 38) (hnc : ∀ c, o.data ≠ .cls c) (hfr : ∀ z, ({ o with dict := z } : Obj).isFreed = false) (hdn : o.dict = none)
    (hq : ∀ h' tk', h'.get? x = some { o with dict := some h.objs.size } → h'.Ns1 h.objs.size (fun y => if y = name then some v else none) → (∀ b ob, b ≠ x → h.get? b = some ob → h'.get? b = some ob) → Q () ⟨h', g, d, tk', os⟩) :
    wpAny (model prog w) A (setAttr (.ref x) name v) Q E ⟨h, g, d, t, os⟩ := by
  have C' := C
  obtain ⟨hC, hn, _, hns, _⟩ := C
  have SF := PySem.F.store_Exception
  have f3 := SF.slot.bind (.ref x)
  unfold setAttr callSpecial? specialOf
  repeat (any_goals (first | assumption | (with_reducible refine wpAny_loadPart_at hx ?_; rw [hc]) | (with_reducible refine wpAny_typeLookup_exc hC hn SF.mro SF.slot.lookup ?_; rw [hns]) | wp_step))
  refine ls_set_call SF C' hna hB hx hc hnc hfr hdn fun h' tk' e1 e2 e3 => ?_
  repeat (any_goals (first | assumption | wp_step))
  exact hq h' tk' e1 e2 e3
end

end PartExc2
local macro_rules | `(tactic| walk_at $s:str) => `(tactic| k_extra $s)
local macro_rules | `(tactic| k_mem) => `(tactic| k_extra "k_mem")
local macro_rules | `(tactic| ktr_units) => `(tactic| first | k_extra "units" | k_extra "ktr_units")
local macro_rules | `(tactic| ktr_room) => `(tactic| k_extra "room")
local macro_rules | `(tactic| k_ne) => `(tactic| k_extra "ne0")
local macro_rules | `(tactic| k_lt $h:ident) => `(tactic| (replace $h := allLt_of $h; dsimp only [AllLt] at $h:ident))
section PartD0
theorem words_1 : True := by
  k_with_none
  k_with "room" => first | exact rm2 hd rfl | exact rm1 hd rfl | exact rm0 hd | exact rm3 hd rfl | exact Nat.le_of_ble_eq_true rfl
  k_with "units" => first | exact rm2 hu rfl | exact rm1 hu rfl | exact rm0 hu | exact rm3 hu rfl | exact Nat.le_of_ble_eq_true rfl
  k_with "pj" => first | with_reducible assumption | with_reducible exact And.left (by assumption) | with_reducible exact And.left (And.right (by assumption)) | with_reducible exact And.right (by assumption) | with_reducible exact And.left (And.right (And.right (by assumption))) | with_reducible exact And.right (And.right (by assumption)) | with_reducible exact And.left (And.right (And.right (And.right (by assumption)))) | with_reducible exact And.right (And.right (And.right (by assumption))) | with_reducible exact And.left (And.right (And.right (And.right (And.right (by assumption))))) | with_reducible exact And.right (And.right (And.right (And.right (by assumption)))) | with_reducible exact And.left (And.right (And.right (And.right (And.right (And.right (by assumption)))))) | with_reducible exact And.right (And.right (And.right (And.right (And.right (by assumption))))) | with_reducible exact And.left (And.right (And.right (And.right (And.right (And.right (And.right (by assumption))))))) | with_reducible exact And.right (And.right (And.right (And.right (And.right (And.right (by assumption)))))) | with_reducible exact And.left (And.right (And.right (And.right (And.right (And.right (And.right (And.right (by assumption)))))))) | with_reducible exact And.right (And.right (And.right (And.right (And.right (And.right (And.right (by assumption))))))) | with_reducible exact And.left (And.right (And.right (And.right (And.right (And.right (And.right (And.right (And.right (by assumption))))))))) | with_reducible exact And.right (And.right (And.right (And.right (And.right (And.right (And.right (And.right (by assumption)))))))) | with_reducible exact And.left (And.right (And.right (And.right (And.right (And.right (And.right (And.right (And.right (And.right (by assumption)))))))))) | with_reducible exact And.right (And.right (And.right (And.right (And.right (And.right (And.right (And.right (And.right (by assumption))))))))) | with_reducible exact And.left (And.right (And.right (And.right (And.right (And.right (And.right (And.right (And.right (And.right (And.right (by assumption))))))))))) | with_reducible exact And.right (And.right (And.right (And.right (And.right (And.right (And.right (And.right (And.right (And.right (by assumption)))))))))) | with_reducible exact And.left (And.right (And.right (And.right (And.right (And.right (And.right (And.right (And.right (And.right (And.right (And.right (by assumption)))))))))))) | with_reducible exact And.right (And.right (And.right (And.right (And.right (And.right (And.right (And.right (And.right (And.right (And.right (by assumption))))))))))) | with_reducible exact And.left (And.right (And.right (And.right (And.right (And.right (And.right (And.right (And.right (And.right (And.right (And.right (And.right (by assumption))))))))))))) | with_reducible exact And.right (And.right (And.right (And.right (And.right (And.right (And.right (And.right (And.right (And.right (And.right (And.right (by assumption)))))))))))) | with_reducible exact And.left (And.right (And.right (And.right (And.right (And.right (And.right (And.right (And.right (And.right (And.right (And.right (And.right (And.right (by assumption)))))))))))))) | with_reducible exact And.right (And.right (And.right (And.right (And.right (And.right (And.right (And.right (And.right (And.right (And.right (And.right (And.right (by assumption)))))))))))))
  k_with "ne0" => (refine neN ?_; (try dsimp only); first | with_reducible assumption | exact Ne.symm (by with_reducible assumption) | exact Nat.ne_of_lt (by walk_at "pj") | exact Nat.ne_of_gt (by walk_at "pj") | walk_at "ne1")
  k_with "allmem" => first | exact List.forall_mem_nil _ | exact List.forall_mem_cons.mpr ⟨by k_mem, by walk_at "allmem"⟩ | exact all_self | exact all_tail (by walk_at "allmem")
  k_with "subscriptTail" => (k_here; (with_reducible show wpAny _ _ (subscriptTail _ _ (Value.ref _) (Value.int _ _)) _ _ _); k_dflt (refine kdt_tail (knd := PySem.intKind _ _) (by k_asm) (by k_mem) (by k_asm) ?_))
  k_with "getItem ref int" => (k_here; k_dflt (refine kdt_getItem (knd := PySem.intKind _ _) (by k_asm) (by k_mem) (by k_asm) (intKind_is _ _ _ _) (by first | k_asm | exact valueAt_stored) ?_))
  k_with "getMethod ref" => (k_here; (with_reducible show wpAny _ _ (getMethod (Value.ref _) (Str.ofString "get") _) _ _ _); k_dflt (refine kdg_method (knd := PySem.intKind _ _) (by k_asm) (by k_mem) (by k_asm) ?_))
  k_with "call builtin:dict.get" => (k_here; k_dflt (refine kdg_get2 (knd := PySem.intKind _ _) (by k_asm) (by k_mem) (by k_asm) (by k_asm) (intKind_is _ _ _ _) (some _) (by k_asm) ?_); (try dsimp only [Option.getD]))
  k_with "compareOp NotEq ref ref" => (k_here; k_dflt (first | (refine ne_nil_none (by k_asm) (by k_mem) (by k_mem) (by ktr_units) ?_) | (refine ne_nil_some (by k_asm) (by k_mem) (by k_mem) (by first | rfl | simp) (by ktr_units) ?_)))
  k_with "k_mem" => first | with_reducible assumption | with_reducible exact List.mem_cons_self | (with_reducible refine List.mem_cons_of_mem _ ?_; k_mem) | assumption
  k_with "eval Name" => (k_dflt (first
    | (refine' nameX_L ?wF ?wv ?_ ?wa ?wb; (case wF => with_reducible assumption); (case wa => rfl); (case wb => rfl); (case wv => first | rfl | assumption); k_whole)
    | (refine' nameX_K ?wF ?wX ?wT ?we ?_ ?wa ?wb; (case wF => k_asm); (case wX => k_asm); (case wT => k_asm); (case wa => rfl); (case wb => rfl); (case we => k_is); k_whole)))
  k_with "callWith" => first
    | with_reducible refine callWith_method0 ?_
    | (with_reducible refine' callWith_method1 ?_ ?whe ?whp; (case whe => k_dflt exact rfl); (case whp => k_dflt exact rfl))
  k_with "newList" => (k_dflt (refine' newList_K ?wk1 ?wk2 ?_; (case wk1 => k_asm); (case wk2 => k_asm); k_whole); intro _ _ _ _ wl1; (try k_lt wl1); (try k_sweep); (revert wl1; intro _))
  k_with "execs cons" => ((try k_gentoks); (with_reducible refine wpAny_execs_cons ?_); try dsimp only)
  k_with "exec Assign" => first
    | (with_reducible refine' wpAny_Assign_Name ?_ ?whs; (case whs => k_dflt exact rfl))
    | (with_reducible refine plainObj_wpAny_Assign_Attribute ?_ ?_; rotate_left; with_unfolding_all rfl)
  k_with "subscriptTail Attribute" => ((with_reducible show wpAny _ _ (subscriptTail _ (PySem.Expr.Slice _ _ _ _) _ _) _ _ _); k_dflt (refine kba_turn (value' := PySem.Expr.Name (PySem.Str.ofString "_") ⟨0, 0, 0, 0⟩) (fun _ => rfl) ?_))
  k_with "exec While" => (k_dflt (refine whl_start 100 ?_))
  k_with "eval Call Attribute" => (refine MethodCall_ ?_)
  k_with "getAttr ref" => (k_dflt (refine' get_own ?wk1 ?wk2 ?wk3 ?wk4 ?wk5 ?wk6 ?wk7 ?wk8 ?wk9 ?_; (case wk1 => k_asm); (case wk2 => k_asm); (case wk3 => (refine' InstAt.of_news ?wN ?wh1 ?wh2; (case wN => k_asm); (case wh1 => k_mem); (case wh2 => k_mem))); (case wk4 => k_is); (case wk5 => k_is); (case wk6 => k_is); (case wk7 => k_is); (case wk8 => k_get); (case wk9 => rfl); k_whole))
  k_with "tin" => first | with_reducible assumption | (with_reducible refine TreIn.cons ?_; walk_at "tin") | (with_reducible refine WinIn.cons ?_; walk_at "tin") | (with_reducible refine LeafIn.cons ?_; walk_at "tin") | (with_reducible refine RootIn.cons ?_; walk_at "tin") | exact St.cons (by walk_at "tin")
  k_with "UnrEnd" => (k_dflt (first   | (refine' unr_at [] ?wF ?wN ?wo1 ?wo2 ?_; (case wF => k_asm); (case wN => k_asm); (case wo1 => k_all); (case wo2 => k_all))   | (refine' unr_at [_] ?wF ?wN ?wo1 ?wo2 ?_; (case wF => k_asm); (case wN => k_asm); (case wo1 => k_all); (case wo2 => k_all))   | (refine' unr_at [_, _] ?wF ?wN ?wo1 ?wo2 ?_; (case wF => k_asm); (case wN => k_asm); (case wo1 => k_all); (case wo2 => k_all))   | (refine' unr_at [_, _, _] ?wF ?wN ?wo1 ?wo2 ?_; (case wF => k_asm); (case wN => k_asm); (case wo1 => k_all); (case wo2 => k_all))   | (refine' unr_at [_, _, _, _] ?wF ?wN ?wo1 ?wo2 ?_; (case wF => k_asm); (case wN => k_asm); (case wo1 => k_all); (case wo2 => k_all))   | (refine' unr_at [_, _, _, _, _] ?wF ?wN ?wo1 ?wo2 ?_; (case wF => k_asm); (case wN => k_asm); (case wo1 => k_all); (case wo2 => k_all))   | (refine' unr_at [_, _, _, _, _, _] ?wF ?wN ?wo1 ?wo2 ?_; (case wF => k_asm); (case wN => k_asm); (case wo1 => k_all); (case wo2 => k_all))); (try dsimp only [List.cons_append, List.nil_append]); (refine ⟨by k_mem, ?_⟩))
  k_with "pyIter ref" => ((with_reducible show wpAny _ _ (pyIter (Value.ref _)) (fun it s₂ => LoopAtV _ _ _ _ _ _ _ _ _ it s₂) _ _); k_dflt (first | (refine' iter_listUnr rfl ?wF ?wN ?whm ?whc ?whd ?_; (case wF => k_asm); (case wN => k_asm); (case whm => k_mem); (case whc => exact rfl); (case whd => exact rfl)) | (refine' iter_listUnr (vs := [_]) rfl ?wF ?wN ?whm ?whc ?whd ?_; (case wF => k_asm); (case wN => k_asm); (case whm => k_mem); (case whc => exact rfl); (case whd => exact rfl))); intro _ wlI; (try k_lt wlI); (revert wlI; intro _))
  k_with "exec For" => ((with_unfolding_all refine' For_invVF (by k_asm) ?wk1 ?wk2 ?_; (case wk1 => exact rfl); (case wk2 => exact rfl); k_whole))
  k_with "ite" => first
    | with_reducible refine ite_eqp (by first | assumption | omega) ?_ | with_reducible refine ite_eqn (by first | assumption | omega) ?_
    | with_reducible refine ite_nep (by first | assumption | omega) ?_ | with_reducible refine ite_nen (by first | assumption | omega) ?_
    | with_reducible refine ite_decp (by first | assumption | omega) ?_ | with_reducible refine ite_decn (by first | assumption | omega) ?_
  k_with "call builtin:list.pop" => (k_dflt (refine' pop_l ?wF ?wN ?wU ?wz ?_; (case wF => k_asm); (case wN => k_asm); (case wU => walk_at "upd"); (case wz => (simp only [List.length_append, List.length_reverse, List.length_map, List.length_cons, List.length_nil] at *; omega)); k_whole); intro _ _ wN'; (try dsimp only at wN'); (try k_sweep); (revert wN'; intro _))
  k_with "call builtin:list.append" => (k_dflt (refine' append_l ?wF ?wN ?wU ?wz ?_; (case wF => k_asm); (case wN => k_asm); (case wU => walk_at "upd"); (case wz => (simp only [List.length_append, List.length_reverse, List.length_map, List.length_cons, List.length_nil] at *; omega)); k_whole); intro _ _ wN'; (try dsimp only at wN'); (try k_sweep); (revert wN'; intro _))
  k_with "call builtin:list.extend" => (k_dflt (refine' extend_l ?wF ?wN ?wb ?wne ?wU ?wz ?_; (case wF => k_asm); (case wN => k_asm); (case wb => k_mem); (case wne => first | (simp; done) | (simp; assumption)); (case wU => k_upd); (case wz => (simp only [List.length_append, List.length_reverse, List.length_map, List.length_cons, List.length_nil] at *; omega)); k_whole); intro _ _ wN'; (try dsimp only at wN'); (try k_sweep); (revert wN'; intro _))
  k_with "subscriptTail Name Slice ref ref" => ((with_reducible show wpAny _ _ (subscriptTail _ (PySem.Expr.Slice none none (some _) _) (Value.ref _) (Value.ref _)) _ _ _); k_dflt (refine' rev_l ?wF ?wN ?wl ?wk ?wz ?_ ?ws ?wt; (case wF => k_asm); (case wN => k_asm); (case wl => k_mem); (case wk => exact IsPart.int _ _); (case ws => with_unfolding_all rfl); (case wt => kmk_pure); (case wz => (simp only [List.length_append, List.length_reverse, List.length_map, List.length_cons, List.length_nil] at *; omega))); intro _ _ _ _ wl1; (try k_lt wl1); (try dsimp only); (try k_sweep); (revert wl1; intro _))
  k_with "lt_end" => first | with_reducible assumption | exact PySem.W.ktn_ltOf (by walk_at "alllt")
  k_with "WhlIf" => first
    | (refine whlif_t (by first | rfl | (simp only [bne_iff_ne, ne_eq, beq_iff_eq, decide_eq_true_eq]; first | assumption | omega)) ?_)
    | (refine whlif_f (by first | rfl | (simp only [bne_eq_false_iff_eq, beq_eq_false_iff_ne, ne_eq, decide_eq_false_iff_not]; first | assumption | omega)) ?_)
  k_with "alllt" => first | with_reducible assumption | exact PySem.W.allLt_of (by with_reducible assumption) | with_reducible exact And.right (by assumption) | with_reducible exact And.right (And.right (by assumption)) | with_reducible exact And.right (And.right (And.right (by assumption))) | with_reducible exact And.right (And.right (And.right (And.right (by assumption)))) | with_reducible exact And.right (And.right (And.right (And.right (And.right (by assumption))))) | with_reducible exact And.right (And.right (And.right (And.right (And.right (And.right (by assumption)))))) | with_reducible exact And.right (And.right (And.right (And.right (And.right (And.right (And.right (by assumption))))))) | with_reducible exact And.right (And.right (And.right (And.right (And.right (And.right (And.right (And.right (by assumption))))))))
  k_with "off" => first | with_reducible assumption | exact List.forall_mem_nil _ | exact List.forall_mem_cons.mpr ⟨by first | with_reducible assumption | exact ne_cell2 (by assumption) (by assumption) | exact ne_cell1 (by assumption) (by assumption) | exact ne_cell3 (by assumption) (by assumption) | exact ne_all (by walk_at "alllt") (by assumption) | k_ne, by walk_at "off"⟩ | exact fun p hp => Nat.ne_of_lt (ktn_ltOf (by walk_at "alllt") p hp) | k_all
  k_with "upd" => first | with_reducible assumption | exact Upd.head (by walk_at "off") | exact Upd.tail (by first | with_reducible assumption | exact ne_cell2 (by assumption) (by assumption) | exact ne_cell1 (by assumption) (by assumption) | exact ne_cell3 (by assumption) (by assumption) | exact ne_all (by walk_at "alllt") (by assumption) | k_ne) (by walk_at "upd") | k_upd
  k_with "getAttr ref" => (k_dflt (first
    | (with_reducible refine' gw_num ?wF ?wX ?wN ?wh1 ?wh2 ?_; (case wF => k_asm); (case wX => k_asm); (case wN => k_asm); (case wh1 => k_mem); (case wh2 => k_mem))
    | (with_reducible refine' gw_sort ?wF ?wX ?wN ?wh1 ?wh2 ?_; (case wF => k_asm); (case wX => k_asm); (case wN => k_asm); (case wh1 => k_mem); (case wh2 => k_mem))
    | (with_reducible refine' gw_par ?wF ?wX ?wN ?wh1 ?wh2 ?_; (case wF => k_asm); (case wX => k_asm); (case wN => k_asm); (case wh1 => k_mem); (case wh2 => k_mem))
    | (with_reducible refine' gw_chi ?wF ?wX ?wN ?wh1 ?wh2 ?_; (case wF => k_asm); (case wX => k_asm); (case wN => k_asm); (case wh1 => k_mem); (case wh2 => k_mem))
    | (with_reducible refine' gw_left ?wF ?wX ?wN ?wh1 ?wh2 ?_; (case wF => k_asm); (case wX => k_asm); (case wN => k_asm); (case wh1 => k_mem); (case wh2 => k_mem))
    | (with_reducible refine' gw_top ?wF ?wX ?wN ?wh1 ?wh2 ?_; (case wF => k_asm); (case wX => k_asm); (case wN => k_asm); (case wh1 => k_mem); (case wh2 => k_mem))
    | (with_reducible refine' gw_wid ?wF ?wX ?wN ?wh1 ?wh2 ?_; (case wF => k_asm); (case wX => k_asm); (case wN => k_asm); (case wh1 => k_mem); (case wh2 => k_mem))
    | (with_reducible refine' gw_hei ?wF ?wX ?wN ?wh1 ?wh2 ?_; (case wF => k_asm); (case wX => k_asm); (case wN => k_asm); (case wh1 => k_mem); (case wh2 => k_mem))); k_whole)
  k_with "getAttr ref" => (k_dflt (first
    | (with_reducible refine' gt_windows ?wF ?wX ?wN ?wh1 ?wh2 ?_; (case wF => k_asm); (case wX => k_asm); (case wN => k_asm); (case wh1 => k_mem); (case wh2 => k_mem))
    | (with_reducible refine' gt_lw ?wF ?wX ?wN ?wh1 ?wh2 ?_; (case wF => k_asm); (case wX => k_asm); (case wN => k_asm); (case wh1 => k_mem); (case wh2 => k_mem))
    | (with_reducible refine' gt_lh ?wF ?wX ?wN ?wh1 ?wh2 ?_; (case wF => k_asm); (case wX => k_asm); (case wN => k_asm); (case wh1 => k_mem); (case wh2 => k_mem))
    | (with_reducible refine' gt_root ?wF ?wX ?wN ?wh1 ?wh2 ?_; (case wF => k_asm); (case wX => k_asm); (case wN => k_asm); (case wh1 => k_mem); (case wh2 => k_mem))); k_whole)
  k_with "setAttr ref" => (k_dflt (first
    | (with_reducible refine' sw_wid ?wF ?wX ?wN ?wh1 ?wh2 ?wU ?_; (case wF => k_asm); (case wX => k_asm); (case wN => k_asm); (case wh1 => k_mem); (case wh2 => k_mem); (case wU => walk_at "upd"))
    | (with_reducible refine' sw_hei ?wF ?wX ?wN ?wh1 ?wh2 ?wU ?_; (case wF => k_asm); (case wX => k_asm); (case wN => k_asm); (case wh1 => k_mem); (case wh2 => k_mem); (case wU => walk_at "upd"))
    | (with_reducible refine' sw_left ?wF ?wX ?wN ?wh1 ?wh2 ?wU ?_; (case wF => k_asm); (case wX => k_asm); (case wN => k_asm); (case wh1 => k_mem); (case wh2 => k_mem); (case wU => walk_at "upd"))
    | (with_reducible refine' sw_top ?wF ?wX ?wN ?wh1 ?wh2 ?wU ?_; (case wF => k_asm); (case wX => k_asm); (case wN => k_asm); (case wh1 => k_mem); (case wh2 => k_mem); (case wU => walk_at "upd"))
    | (with_reducible refine' sw_par ?wF ?wX ?wN ?wh1 ?wh2 ?wU ?_; (case wF => k_asm); (case wX => k_asm); (case wN => k_asm); (case wh1 => k_mem); (case wh2 => k_mem); (case wU => walk_at "upd"))); k_whole; intro _ _ _; (try k_sweep))
  trivial

set_option maxRecDepth 100000 in
set_option maxHeartbeats 8000000 in
theorem size_c {w : World} {p : Program} {loose : List Str} {mean : ExcName → Option Value} {mg mb : Str → Option Value} {dp un : Nat} {gd : Option (List Code)} {cn : Str} {cs : Scope} {a : Addr} {ccd : Value} {cl : List (Str × Addr)} {outer : List Env} {A₀ : Around} {base h₀ : Heap} {L : Addr} {m : Str → Option Value} {news : List (Addr × Obj)} {s : Shared} {Q E : Value → Shared → Prop} {W : Win} {ax : Int} {tk : Tok}
    (B : Below A₀ base outer h₀) (F : Fr h₀ L s.heap m) (X : (Mine.hd.heap_39 w.params).In h₀) (N : News h₀ L s.heap news) (T : Top p loose mean mg mb h₀) (hk : cs.kind = .function) (hd : dp + 5 < recursionLimit) (hu : un + 60 < cLine)
    (hw : WinIn w.params news W)
    (hret : ∀ (t9 : Tok) (h9 : Heap) (tk9 : Nat), Fr h₀ L h9 m → News h₀ L h9 news → Q (.int (if ax = 0 then W.wid else W.hei) t9) { s with heap := h9, toks := tk9 }) :
    wpAny (model PySem.Challenge.rw_np0057_01.row.prog w) (ktrTop dp un gd cn cs L a ccd cl outer) (call (.ref 62) [.ref W.x, .int ax tk]) Q E s := by
  refine wpAny_call ?_
  k_dflt (refine' code_def (binds := [(Str.ofString "self", .ref W.x), (Str.ofString "axis", .int ax tk)]) ?k1 ?k2 ?k3 ?k4 ?k5 ?kA ?kF ?kK ?k6 ?k7 ?k8 ?k9 ?kB ?_ ?c2 ?c3 ?c4 ?c5; (case kA => exact rfl); (case kF => exact rfl); (case kK => assumption); (case k1 => exact B); (case k2 => exact F); (case k3 => exact X); (case k4 => exact N); (case k5 => exact T); (case k6 => k_is); (case k7 => k_is); (case k8 => ktr_room); (case k9 => exact BindsTo.of_eq rfl); (case c5 => decide); (case kB => exact locs rfl); (case c2 => exact rfl); (case c3 => exact rfl); (case c4 => exact rfl); k_whole; intro g' L' h' FG' F' N' B' X' T'; (try dsimp only [List.length_cons, List.length_nil]); (try k_fold))
  obtain ⟨hw1, hw2⟩ := hw
  k_steps
  all_goals cb_end hret

set_option maxRecDepth 100000 in
set_option maxHeartbeats 8000000 in
theorem place_c {w : World} {p : Program} {loose : List Str} {mean : ExcName → Option Value} {mg mb : Str → Option Value} {dp un : Nat} {gd : Option (List Code)} {cn : Str} {cs : Scope} {a : Addr} {ccd : Value} {cl : List (Str × Addr)} {outer : List Env} {A₀ : Around} {base h₀ : Heap} {L : Addr} {m : Str → Option Value} {news : List (Addr × Obj)} {s : Shared} {Q E : Value → Shared → Prop} {W : Win} {ax : Int} {tk : Tok}
    (B : Below A₀ base outer h₀) (F : Fr h₀ L s.heap m) (X : (Mine.hd.heap_39 w.params).In h₀) (N : News h₀ L s.heap news) (T : Top p loose mean mg mb h₀) (hk : cs.kind = .function) (hd : dp + 5 < recursionLimit) (hu : un + 60 < cLine)
    (hw : WinIn w.params news W)
    (hret : ∀ (t9 : Tok) (h9 : Heap) (tk9 : Nat), Fr h₀ L h9 m → News h₀ L h9 news → Q (.int (if ax = 0 then W.left else W.top) t9) { s with heap := h9, toks := tk9 }) :
    wpAny (model PySem.Challenge.rw_np0057_01.row.prog w) (ktrTop dp un gd cn cs L a ccd cl outer) (call (.ref 76) [.ref W.x, .int ax tk]) Q E s := by
  refine wpAny_call ?_
  k_dflt (refine' code_def (binds := [(Str.ofString "self", .ref W.x), (Str.ofString "axis", .int ax tk)]) ?k1 ?k2 ?k3 ?k4 ?k5 ?kA ?kF ?kK ?k6 ?k7 ?k8 ?k9 ?kB ?_ ?c2 ?c3 ?c4 ?c5; (case kA => exact rfl); (case kF => exact rfl); (case kK => assumption); (case k1 => exact B); (case k2 => exact F); (case k3 => exact X); (case k4 => exact N); (case k5 => exact T); (case k6 => k_is); (case k7 => k_is); (case k8 => ktr_room); (case k9 => exact BindsTo.of_eq rfl); (case c5 => decide); (case kB => exact locs rfl); (case c2 => exact rfl); (case c3 => exact rfl); (case c4 => exact rfl); k_whole; intro g' L' h' FG' F' N' B' X' T'; (try dsimp only [List.length_cons, List.length_nil]); (try k_fold))
  obtain ⟨hw1, hw2⟩ := hw
  k_steps
  all_goals cb_end hret

set_option maxRecDepth 100000 in
set_option maxHeartbeats 8000000 in
theorem least_leaf_c {w : World} {p : Program} {loose : List Str} {mean : ExcName → Option Value} {mg mb : Str → Option Value} {dp un : Nat} {gd : Option (List Code)} {cn : Str} {cs : Scope} {a : Addr} {ccd : Value} {cl : List (Str × Addr)} {outer : List Env} {A₀ : Around} {base h₀ : Heap} {L : Addr} {m : Str → Option Value} {news : List (Addr × Obj)} {s : Shared} {Q E : Value → Shared → Prop} {V : Tre} {ax : Int} {tk : Tok}
    (B : Below A₀ base outer h₀) (F : Fr h₀ L s.heap m) (X : (Mine.hd.heap_39 w.params).In h₀) (N : News h₀ L s.heap news) (T : Top p loose mean mg mb h₀) (hk : cs.kind = .function) (hd : dp + 5 < recursionLimit) (hu : un + 60 < cLine)
    (ht : TreIn w news V)
    (hret : ∀ (t9 : Tok) (h9 : Heap) (tk9 : Nat), Fr h₀ L h9 m → News h₀ L h9 news → Q (.int (if ax = 0 then V.lw else V.lh) t9) { s with heap := h9, toks := tk9 }) :
    wpAny (model PySem.Challenge.rw_np0057_01.row.prog w) (ktrTop dp un gd cn cs L a ccd cl outer) (call (.ref 154) [.ref V.x, .int ax tk]) Q E s := by
  refine wpAny_call ?_
  k_dflt (refine' code_def (binds := [(Str.ofString "self", .ref V.x), (Str.ofString "axis", .int ax tk)]) ?k1 ?k2 ?k3 ?k4 ?k5 ?kA ?kF ?kK ?k6 ?k7 ?k8 ?k9 ?kB ?_ ?c2 ?c3 ?c4 ?c5; (case kA => exact rfl); (case kF => exact rfl); (case kK => assumption); (case k1 => exact B); (case k2 => exact F); (case k3 => exact X); (case k4 => exact N); (case k5 => exact T); (case k6 => k_is); (case k7 => k_is); (case k8 => ktr_room); (case k9 => exact BindsTo.of_eq rfl); (case c5 => decide); (case kB => exact locs rfl); (case c2 => exact rfl); (case c3 => exact rfl); (case c4 => exact rfl); k_whole; intro g' L' h' FG' F' N' B' X' T'; (try dsimp only [List.length_cons, List.length_nil]); (try k_fold))
  obtain ⟨ht1, ht2, ht3⟩ := ht
  k_steps
  all_goals cb_end hret

set_option maxRecDepth 100000 in
set_option maxHeartbeats 8000000 in
theorem along_c {w : World} {p : Program} {loose : List Str} {mean : ExcName → Option Value} {mg mb : Str → Option Value} {dp un : Nat} {gd : Option (List Code)} {cn : Str} {cs : Scope} {a : Addr} {ccd : Value} {cl : List (Str × Addr)} {outer : List Env} {A₀ : Around} {base h₀ : Heap} {L : Addr} {m : Str → Option Value} {news : List (Addr × Obj)} {s : Shared} {Q E : Value → Shared → Prop} {so : Int} {tk : Tok}
    (B : Below A₀ base outer h₀) (F : Fr h₀ L s.heap m) (X : (Mine.hd.heap_39 w.params).In h₀) (N : News h₀ L s.heap news) (T : Top p loose mean mg mb h₀) (hk : cs.kind = .function) (hd : dp + 5 < recursionLimit) (hu : un + 60 < cLine)
    
    (hret : ∀ (t9 : Tok) (h9 : Heap) (tk9 : Nat), Fr h₀ L h9 m → News h₀ L h9 news → Q (.int (if so = 2 then 0 else 1) t9) { s with heap := h9, toks := tk9 }) :
    wpAny (model PySem.Challenge.rw_np0057_01.row.prog w) (ktrTop dp un gd cn cs L a ccd cl outer) (call (.ref 175) [.int so tk]) Q E s := by
  refine wpAny_call ?_
  k_dflt (refine' code_def (binds := [(Str.ofString "sort", .int so tk)]) ?k1 ?k2 ?k3 ?k4 ?k5 ?kA ?kF ?kK ?k6 ?k7 ?k8 ?k9 ?kB ?_ ?c2 ?c3 ?c4 ?c5; (case kA => exact rfl); (case kF => exact rfl); (case kK => assumption); (case k1 => exact B); (case k2 => exact F); (case k3 => exact X); (case k4 => exact N); (case k5 => exact T); (case k6 => k_is); (case k7 => k_is); (case k8 => ktr_room); (case k9 => exact BindsTo.of_eq rfl); (case c5 => decide); (case kB => exact locs rfl); (case c2 => exact rfl); (case c3 => exact rfl); (case c4 => exact rfl); k_whole; intro g' L' h' FG' F' N' B' X' T'; (try dsimp only [List.length_cons, List.length_nil]); (try k_fold))
  k_steps
  all_goals cb_end hret

set_option maxRecDepth 100000 in
set_option maxHeartbeats 8000000 in
theorem window_c {w : World} {p : Program} {loose : List Str} {mean : ExcName → Option Value} {mg mb : Str → Option Value} {dp un : Nat} {gd : Option (List Code)} {cn : Str} {cs : Scope} {a : Addr} {ccd : Value} {cl : List (Str × Addr)} {outer : List Env} {A₀ : Around} {base h₀ : Heap} {L : Addr} {m : Str → Option Value} {news : List (Addr × Obj)} {s : Shared} {Q E : Value → Shared → Prop} {V : Tre} {W : Win} {tk : Tok}
    (B : Below A₀ base outer h₀) (F : Fr h₀ L s.heap m) (X : (Mine.hd.heap_39 w.params).In h₀) (N : News h₀ L s.heap news) (T : Top p loose mean mg mb h₀) (hk : cs.kind = .function) (hd : dp + 5 < recursionLimit) (hu : un + 60 < cLine)
    (ht : TreIn w news V) (hv : valueAt V.kvs W.num = some (.ref W.x))
    (hret : ∀ (h9 : Heap) (tk9 : Nat), Fr h₀ L h9 m → News h₀ L h9 news → Q (.ref (W.x)) { s with heap := h9, toks := tk9 }) :
    wpAny (model PySem.Challenge.rw_np0057_01.row.prog w) (ktrTop dp un gd cn cs L a ccd cl outer) (call (.ref 126) [.ref V.x, .int W.num tk]) Q E s := by
  refine wpAny_call ?_
  k_dflt (refine' code_def (binds := [(Str.ofString "self", .ref V.x), (Str.ofString "number", .int W.num tk)]) ?k1 ?k2 ?k3 ?k4 ?k5 ?kA ?kF ?kK ?k6 ?k7 ?k8 ?k9 ?kB ?_ ?c2 ?c3 ?c4 ?c5; (case kA => exact rfl); (case kF => exact rfl); (case kK => assumption); (case k1 => exact B); (case k2 => exact F); (case k3 => exact X); (case k4 => exact N); (case k5 => exact T); (case k6 => k_is); (case k7 => k_is); (case k8 => ktr_room); (case k9 => exact BindsTo.of_eq rfl); (case c5 => decide); (case kB => exact locs rfl); (case c2 => exact rfl); (case c3 => exact rfl); (case c4 => exact rfl); k_whole; intro g' L' h' FG' F' N' B' X' T'; (try dsimp only [List.length_cons, List.length_nil]); (try k_fold))
  obtain ⟨ht1, ht2, ht3, ht4, ht5⟩ := ht
  k_steps
  all_goals exact hret _ _ (by k_asm) (by k_asm)

set_option maxRecDepth 100000 in
set_option maxHeartbeats 8000000 in
theorem windows_under_c {w : World} {p : Program} {loose : List Str} {mean : ExcName → Option Value} {mg mb : Str → Option Value} {dp un : Nat} {gd : Option (List Code)} {cn : Str} {cs : Scope} {a : Addr} {ccd : Value} {cl : List (Str × Addr)} {outer : List Env} {A₀ : Around} {base h₀ : Heap} {L : Addr} {m : Str → Option Value} {news : List (Addr × Obj)} {s : Shared} {Q E : Value → Shared → Prop} {V : Tre} {W : Win} {tk : Tok} {cep : Nat}
    (B : Below A₀ base outer h₀) (F : Fr h₀ L s.heap m) (X : (Mine.hd.heap_39 w.params).In h₀) (N : News h₀ L s.heap news) (T : Top p loose mean mg mb h₀) (hk : cs.kind = .function) (hd : dp + 5 < recursionLimit) (hu : un + 60 < cLine)
    (ht : TreIn w news V) (hv : valueAt V.kvs W.num = some (.ref W.x)) (hw : WinIn w.params news W) (hc : (W.chi, listOf #[] cep) ∈ news)
    (hret : ∀ (l : Addr) (t9 : Tok) (n9 : Nat) (h9 : Heap) (tk9 : Nat), Fr h₀ L h9 m → News h₀ L h9 ((l, listOf #[.int W.num t9] n9) :: news) → (∀ p ∈ news, p.1 < l) → Q (.ref l) { s with heap := h9, toks := tk9 }) :
    wpAny (model PySem.Challenge.rw_np0057_01.row.prog w) (ktrTop dp un gd cn cs L a ccd cl outer) (call (.ref 203) [.ref V.x, .int W.num tk]) Q E s := by
  refine wpAny_call ?_
  k_dflt (refine' code_def (binds := [(Str.ofString "tree", .ref V.x), (Str.ofString "number", .int W.num tk)]) ?k1 ?k2 ?k3 ?k4 ?k5 ?kA ?kF ?kK ?k6 ?k7 ?k8 ?k9 ?kB ?_ ?c2 ?c3 ?c4 ?c5; (case kA => exact rfl); (case kF => exact rfl); (case kK => assumption); (case k1 => exact B); (case k2 => exact F); (case k3 => exact X); (case k4 => exact N); (case k5 => exact T); (case k6 => k_is); (case k7 => k_is); (case k8 => ktr_room); (case k9 => exact BindsTo.of_eq rfl); (case c5 => decide); (case kB => exact locs rfl); (case c2 => exact rfl); (case c3 => exact rfl); (case c4 => exact rfl); k_whole; intro g' L' h' FG' F' N' B' X' T'; (try dsimp only [List.length_cons, List.length_nil]); (try k_fold))
  obtain ⟨ht1, ht2, ht3, ht4, ht5⟩ := ht
  obtain ⟨hw1, hw2⟩ := hw
  k_steps
  exact hret _ _ _ _ _ (by k_asm) (cb_drop (by assumption) (List.forall_mem_cons.mpr ⟨by k_mem, fun p hp => by k_mem⟩)) (by assumption)



end PartD0
section PartD1
theorem words_2 : True := by
  k_with "call ref" => ((with_reducible show wpAny _ _ (call (Value.ref 62) _) _ _ _); k_dflt (refine' size_c ?wB ?wF ?wX ?wN ?wT ?whk ?whd ?whu ?whw ?_; (case wB => k_asm); (case wF => k_asm); (case wX => k_asm); (case wN => k_asm); (case wT => k_asm); (case whk => first | exact rfl | assumption); (case whd => ktr_room); (case whu => ktr_units); (case whw => walk_at "tin"); k_whole); intro _ _ _ _ _; (try k_sweep))
  k_with "call ref" => ((with_reducible show wpAny _ _ (call (Value.ref 76) _) _ _ _); k_dflt (refine' place_c ?wB ?wF ?wX ?wN ?wT ?whk ?whd ?whu ?whw ?_; (case wB => k_asm); (case wF => k_asm); (case wX => k_asm); (case wN => k_asm); (case wT => k_asm); (case whk => first | exact rfl | assumption); (case whd => ktr_room); (case whu => ktr_units); (case whw => walk_at "tin"); k_whole); intro _ _ _ _ _; (try k_sweep))
  k_with "call ref" => ((with_reducible show wpAny _ _ (call (Value.ref 154) _) _ _ _); k_dflt (refine' least_leaf_c ?wB ?wF ?wX ?wN ?wT ?whk ?whd ?whu ?wht ?_; (case wB => k_asm); (case wF => k_asm); (case wX => k_asm); (case wN => k_asm); (case wT => k_asm); (case whk => first | exact rfl | assumption); (case whd => ktr_room); (case whu => ktr_units); (case wht => walk_at "tin"); k_whole); intro _ _ _ _ _; (try k_sweep))
  k_with "call ref" => ((with_reducible show wpAny _ _ (call (Value.ref 175) _) _ _ _); k_dflt (refine' along_c ?wB ?wF ?wX ?wN ?wT ?whk ?whd ?whu  ?_; (case wB => k_asm); (case wF => k_asm); (case wX => k_asm); (case wN => k_asm); (case wT => k_asm); (case whk => first | exact rfl | assumption); (case whd => ktr_room); (case whu => ktr_units);  k_whole); intro _ _ _ _ _; (try k_sweep))
  k_with "call ref" => ((with_reducible show wpAny _ _ (call (Value.ref 126) _) _ _ _); k_dflt (refine' window_c ?wB ?wF ?wX ?wN ?wT ?whk ?whd ?whu ?wht ?whv ?_; (case wB => k_asm); (case wF => k_asm); (case wX => k_asm); (case wN => k_asm); (case wT => k_asm); (case whk => first | exact rfl | assumption); (case whd => ktr_room); (case whu => ktr_units); (case wht => walk_at "tin"); (case whv => k_asm); k_whole); intro _ _ _ _; (try k_sweep))
  k_with "call ref" => ((with_reducible show wpAny _ _ (call (Value.ref 203) _) _ _ _); k_dflt (refine' windows_under_c ?wB ?wF ?wX ?wN ?wT ?whk ?whd ?whu ?wht ?whv ?whw ?whc ?_; (case wB => k_asm); (case wF => k_asm); (case wX => k_asm); (case wN => k_asm); (case wT => k_asm); (case whk => first | exact rfl | assumption); (case whd => ktr_room); (case whu => ktr_units); (case wht => walk_at "tin"); (case whv => k_asm); (case whw => walk_at "tin"); (case whc => k_mem); k_whole); intro _ _ _ _ _ _ _ wl1; (try k_lt wl1); (try k_sweep); (revert wl1; intro _))
  trivial

set_option maxRecDepth 100000 in
set_option maxHeartbeats 8000000 in
theorem least_size_c {w : World} {p : Program} {loose : List Str} {mean : ExcName → Option Value} {mg mb : Str → Option Value} {dp un : Nat} {gd : Option (List Code)} {cn : Str} {cs : Scope} {a : Addr} {ccd : Value} {cl : List (Str × Addr)} {outer : List Env} {A₀ : Around} {base h₀ : Heap} {L : Addr} {m : Str → Option Value} {news : List (Addr × Obj)} {s : Shared} {Q E : Value → Shared → Prop} {V : Tre} {W : Win} {tk tk2 : Tok} {ax : Int} {cep : Nat}
    (B : Below A₀ base outer h₀) (F : Fr h₀ L s.heap m) (X : (Mine.hd.heap_39 w.params).In h₀) (N : News h₀ L s.heap news) (T : Top p loose mean mg mb h₀) (hk : cs.kind = .function) (hd : dp + 10 < recursionLimit) (hu : un + 100 < cLine)
    (ht : TreIn w news V) (hv : valueAt V.kvs W.num = some (.ref W.x)) (hw : WinIn w.params news W) (hc : (W.chi, listOf #[] cep) ∈ news) (hs : W.sort = 0)
    (hret : ∀ (t9 : Tok) (h9 : Heap) (tk9 : Nat), Fr h₀ L h9 m → News h₀ L h9 news → Q (.int (if ax = 0 then V.lw else V.lh) t9) { s with heap := h9, toks := tk9 }) :
    wpAny (model PySem.Challenge.rw_np0057_01.row.prog w) (ktrTop dp un gd cn cs L a ccd cl outer) (call (.ref 215) [.ref V.x, .int W.num tk, .int ax tk2]) Q E s := by
  refine wpAny_call ?_
  k_dflt (refine' code_defC (binds := [(Str.ofString "tree", .ref V.x), (Str.ofString "number", .int W.num tk), (Str.ofString "axis", .int ax tk2)]) ?k1 ?k2 ?k3 ?k4 ?k5 ?kA ?kF ?kK ?k6 ?k7 ?k8 ?k9 ?kB ?kD ?_ ?c2 ?c3 ?c4; (case kA => exact rfl); (case kF => exact rfl); (case kK => assumption); (case k1 => exact B); (case k2 => exact F); (case k3 => exact X); (case k4 => exact N); (case k5 => exact T); (case k6 => k_is); (case k7 => k_is); (case k8 => ktr_room); (case k9 => exact BindsTo.of_eq rfl); (case kB => exact rfl); (case kD => decide +kernel); (case c2 => exact rfl); (case c3 => exact rfl); (case c4 => exact rfl); k_whole; intro g' L' h' tk' cells' FG' F' N' Y' B' X' T' l1; k_cells Y'; (try simp only [List.cons_append, List.nil_append] at N'); (try dsimp only); (try k_fold))
  have l2' : ∀ p ∈ news, p.1 < L' + 1 := fun p hp => Nat.lt_succ_of_lt (l1 p hp)
  have ht0 := ht
  have hw0 := hw
  obtain ⟨ht1, ht2, ht3, ht4, ht5⟩ := ht
  obtain ⟨hw1, hw2⟩ := hw
  k_steps
  all_goals cb_end hret



end PartD1
section PartD2
set_option maxRecDepth 100000 in
set_option maxHeartbeats 8000000 in
theorem leaves_under_c {w : World} {p : Program} {loose : List Str} {mean : ExcName → Option Value} {mg mb : Str → Option Value} {dp un : Nat} {gd : Option (List Code)} {cn : Str} {cs : Scope} {a : Addr} {ccd : Value} {cl : List (Str × Addr)} {outer : List Env} {A₀ : Around} {base h₀ : Heap} {L : Addr} {m : Str → Option Value} {news : List (Addr × Obj)} {s : Shared} {Q E : Value → Shared → Prop} {V : Tre} {R : Win} {kids : List (Win × Tok)} {tk : Tok} {rn : Int}
    (B : Below A₀ base outer h₀) (F : Fr h₀ L s.heap m) (X : (Mine.hd.heap_39 w.params).In h₀) (N : News h₀ L s.heap news) (T : Top p loose mean mg mb h₀) (hk : cs.kind = .function) (hd : dp + 5 < recursionLimit) (hu : un + 60 < cLine)
    (S : St w news V R kids) (hrn : rn = R.num)
    (hret : ∀ (l : Addr) (n9 : Nat) (h9 : Heap) (tk9 : Nat), Fr h₀ L h9 m → News h₀ L h9 ((l, listOf (kids.map fv).toArray n9) :: news) → (∀ p ∈ news, p.1 < l) → Q (.ref l) { s with heap := h9, toks := tk9 }) :
    wpAny (model PySem.Challenge.rw_np0057_01.row.prog w) (ktrTop dp un gd cn cs L a ccd cl outer) (call (.ref 189) [.ref V.x, .int rn tk]) Q E s := by
  refine wpAny_call ?_
  k_dflt (refine' code_def (binds := [(Str.ofString "tree", .ref V.x), (Str.ofString "number", .int rn tk)]) ?k1 ?k2 ?k3 ?k4 ?k5 ?kA ?kF ?kK ?k6 ?k7 ?k8 ?k9 ?kB ?_ ?c2 ?c3 ?c4 ?c5; (case kA => exact rfl); (case kF => exact rfl); (case kK => assumption); (case k1 => exact B); (case k2 => exact F); (case k3 => exact X); (case k4 => exact N); (case k5 => exact T); (case k6 => k_is); (case k7 => k_is); (case k8 => ktr_room); (case k9 => exact BindsTo.of_eq rfl); (case c5 => decide); (case kB => exact locs rfl); (case c2 => exact rfl); (case c3 => exact rfl); (case c4 => exact rfl); k_whole; intro g' L' h' FG' F' N' B' X' T'; (try dsimp only [List.length_cons, List.length_nil]); (try k_fold))
  subst hrn
  have ht := S.tre
  have hr := S.root
  have hl := S.leaf
  have ht0 := ht
  obtain ⟨ht1, ht2, ht3, ht4, ht5⟩ := ht
  obtain ⟨⟨hr1, hr2⟩, hr3, hr4, ⟨cep, hr5⟩, hr6, hr7, hr8⟩ := hr
  repeat' (first | (k_unfold; (try dsimp only)) | ((fail_if_success (with_reducible show wpAny _ _ (exec (Stmt.While _ _ _ _) _) _ _ _)); (fail_if_success (with_reducible show WhlRest _ _ _ _ _ _ _ _ _ _ _)); (fail_if_success (with_reducible show WStep _ _ _ _ _ _)); first | walk1 | (dsimp only; walk1)))
  k_dflt (refine whl_start 100 ?_)
  walk_at "WhlRest"
  repeat' (first | (k_unfold; (try dsimp only)) | ((fail_if_success (with_reducible show wpAny _ _ (exec (Stmt.While _ _ _ _) _) _ _ _)); (fail_if_success (with_reducible show WhlRest _ _ _ _ _ _ _ _ _ _ _)); (fail_if_success (with_reducible show WStep _ _ _ _ _ _)); first | walk1 | (dsimp only; walk1)))
  rename News _ _ _ _ => N1
  rename Fr _ _ _ _ => F1
  rename_i lf _ l1a _ _ lw _ l1b _ _ _ _ _ _ _ _ _ _ _ _ _
  refine whl_ind (σ := List (Win × Tok) × List (Win × Tok)) (fun c s' => ∃ h tk mm nw nf, s' = { s with heap := h, toks := tk } ∧ c.2 ++ c.1 = kids ∧ Fr g' L' h mm ∧ mm (Str.ofString "tree") = some (.ref V.x) ∧ mm (Str.ofString "found") = some (.ref lf) ∧ mm (Str.ofString "waiting") = some (.ref lw) ∧ News g' L' h ((lw, listOf (c.1.map kv).reverse.toArray nw) :: (lf, listOf (c.2.map fv).toArray nf) :: news))
    (fun c => c.1.length) (kids, []) ⟨_, _, _, _, _, rfl, rfl, F1, rfl, rfl, rfl, cb_drop N1 (List.forall_mem_cons.mpr ⟨by k_mem, List.forall_mem_cons.mpr ⟨by k_mem, fun p hp => by k_mem⟩⟩)⟩ (by first | passes_own | with_unfolding_all passes_own) ?_
  clear F1 N1
  rintro ⟨rest, don⟩ s' ⟨h, tk, mm, nw, nf, rfl, hsplit, F2, m1, m2, m3, N2⟩
  cases rest with
  | nil =>
    simp only [List.append_nil] at hsplit
    subst hsplit
    simp only [List.map_nil, List.reverse_nil] at N2
    repeat' (first | (k_unfold; (try dsimp only)) | ((fail_if_success (with_reducible show wpAny _ _ (exec (Stmt.While _ _ _ _) _) _ _ _)); (fail_if_success (with_reducible show WhlRest _ _ _ _ _ _ _ _ _ _ _)); (fail_if_success (with_reducible show WStep _ _ _ _ _ _)); first | walk1 | (dsimp only; walk1)))
    exact hret _ _ _ _ (by k_asm) (cb_drop (by assumption) (List.forall_mem_cons.mpr ⟨by k_mem, fun p hp => by k_mem⟩)) l1a
  | cons p r =>
    simp only [List.map_cons, List.reverse_cons] at N2
    have hpk : p ∈ kids := by rw [← hsplit]; simp
    obtain ⟨⟨hw1, hw2⟩, hw3, hw4, ⟨cw, hw5⟩⟩ := hl p hpk
    have hlen : (r.map kv).length ≤ 9 := by have := congrArg List.length hsplit; simp at this ⊢; omega
    have hlen2 : (don.map fv).length ≤ 9 := by have := congrArg List.length hsplit; simp at this ⊢; omega
    repeat' (first | (k_unfold; (try dsimp only)) | ((fail_if_success (with_reducible show wpAny _ _ (exec (Stmt.While _ _ _ _) _) _ _ _)); (fail_if_success (with_reducible show WhlRest _ _ _ _ _ _ _ _ _ _ _)); (fail_if_success (with_reducible show WStep _ _ _ _ _ _)); first | walk1 | (dsimp only; walk1)))
    rename News _ _ _ _ => N3
    rename Fr _ _ _ _ => F3
    refine ⟨(r, don ++ [p]), by simp, _, _, _, nw + 1, nf + 1, rfl, by simpa using hsplit, F3, m1, m2, m3, ?_⟩
    simp only [List.map_append, List.map_cons, List.map_nil]
    exact cb_drop N3 (List.forall_mem_cons.mpr ⟨by k_mem, List.forall_mem_cons.mpr ⟨by k_mem, fun p hp => by k_mem⟩⟩)



end PartD2
section PartD3
set_option maxRecDepth 100000 in
set_option maxHeartbeats 8000000 in
theorem set_size_c {w : World} {p : Program} {loose : List Str} {mean : ExcName → Option Value} {mg mb : Str → Option Value} {dp un : Nat} {gd : Option (List Code)} {cn : Str} {cs : Scope} {a : Addr} {ccd : Value} {cl : List (Str × Addr)} {outer : List Env} {A₀ : Around} {base h₀ : Heap} {L : Addr} {m : Str → Option Value} {news : List (Addr × Obj)} {s : Shared} {Q E : Value → Shared → Prop} {W : Win} {ax sz : Int} {tk tk2 : Tok} {news' : List (Addr × Obj)}
    (B : Below A₀ base outer h₀) (F : Fr h₀ L s.heap m) (X : (Mine.hd.heap_39 w.params).In h₀) (N : News h₀ L s.heap news) (T : Top p loose mean mg mb h₀) (hk : cs.kind = .function) (hd : dp + 5 < recursionLimit) (hu : un + 60 < cLine)
    (hw : WinIn w.params news W) (U : Upd W.d (dictOf (W.es w.params) 16) (dictOf ((W.setSize ax sz tk2).es w.params) 16) news news')
    (hret : ∀ (h9 : Heap) (tk9 : Nat), Fr h₀ L h9 m → News h₀ L h9 news' → Q .none { s with heap := h9, toks := tk9 }) :
    wpAny (model PySem.Challenge.rw_np0057_01.row.prog w) (ktrTop dp un gd cn cs L a ccd cl outer) (call (.ref 69) [.ref W.x, .int ax tk, .int sz tk2]) Q E s := by
  refine wpAny_call ?_
  k_dflt (refine' code_def (binds := [(Str.ofString "self", .ref W.x), (Str.ofString "axis", .int ax tk), (Str.ofString "size", .int sz tk2)]) ?k1 ?k2 ?k3 ?k4 ?k5 ?kA ?kF ?kK ?k6 ?k7 ?k8 ?k9 ?kB ?_ ?c2 ?c3 ?c4 ?c5; (case kA => exact rfl); (case kF => exact rfl); (case kK => assumption); (case k1 => exact B); (case k2 => exact F); (case k3 => exact X); (case k4 => exact N); (case k5 => exact T); (case k6 => k_is); (case k7 => k_is); (case k8 => ktr_room); (case k9 => exact BindsTo.of_eq rfl); (case c5 => decide); (case kB => exact locs rfl); (case c2 => exact rfl); (case c3 => exact rfl); (case c4 => exact rfl); k_whole; intro g' L' h' FG' F' N' B' X' T'; (try dsimp only [List.length_cons, List.length_nil]); (try k_fold))
  obtain ⟨hw1, hw2⟩ := hw
  by_cases hax : ax = 0
  · rw [Win.setSize, if_pos hax] at U
    k_steps
    exact hret _ _ (by k_asm) (by k_asm)
  · rw [Win.setSize, if_neg hax] at U
    k_steps
    exact hret _ _ (by k_asm) (by k_asm)



end PartD3
section PartD4
theorem words_3 : True := by
  k_with "call builtin:list.index" => (k_dflt (refine' kf_index ?wN ?wm ?wi ?we ?wc ?wz ?_; (case wN => k_asm); (case wm => k_mem); (case wi => exact kids_ints _); (case we => exact kids_at (by assumption)); (case wc => exact rfl); (case wz => exact kids_size (by (first | assumption | (simp only [List.length_append, List.length_cons, List.length_reverse, List.length_map, List.length_nil] at *; omega))))))
  k_with "subscriptTail Name Slice ref ref" => ((with_reducible show wpAny _ _ (subscriptTail _ (PySem.Expr.Slice _ _ none _) (Value.ref _) (Value.ref _)) _ _ _); k_dflt (refine' kms_slice_lit ?wF ?wN ?wl ?wp ?wq ?we ?_ ?ws ?wt ?wz; (case wF => k_asm); (case wN => k_asm); (case wl => kmk_list); (case wp => kmk_part); (case wq => kmk_part); (case we => first | exact pick_from | exact pick_to); (case ws => with_unfolding_all rfl); (case wt => kmk_pure); (case wz => exact kids_size' (by (first | assumption | (simp only [List.length_append, List.length_cons, List.length_reverse, List.length_map, List.length_nil] at *; omega))))); intro _ _ _ _ wl1; (try k_lt wl1); (try dsimp only); (try k_sweep); (revert wl1; intro _))
  k_with "subscriptTail Subscript" => ((with_reducible show wpAny _ _ (subscriptTail _ (PySem.Expr.Slice _ _ _ _) _ _) _ _ _); k_dflt (refine kba_turn (value' := PySem.Expr.Name (PySem.Str.ofString "_") ⟨0, 0, 0, 0⟩) (fun _ => rfl) ?_))
  k_with "binaryOp Add ref ref" => (k_dflt (refine' kmk_add_lit ?wF ?wN ?wa ?wb ?we ?_ ?wz; (case wF => k_asm); (case wN => k_asm); (case wa => kmk_list); (case wb => kmk_list); (case we => exact rfl); (case wz => (simp only [List.length_append, List.length_cons, List.length_reverse, List.length_map, List.length_nil] at *; refine Nat.le_trans (m := 20) ?_ (by decide); omega))); intro _ _ _ _ wl1; (try k_lt wl1); (try dsimp only); (try k_sweep); (revert wl1; intro _))
  k_with "call ref" => ((with_reducible show wpAny _ _ (call (Value.ref 189) _) _ _ _); k_dflt (refine' leaves_under_c ?wB ?wF ?wX ?wN ?wT ?whk ?whd ?whu ?wS ?whrn ?_; (case wB => k_asm); (case wF => k_asm); (case wX => k_asm); (case wN => k_asm); (case wT => k_asm); (case whk => first | exact rfl | assumption); (case whd => ktr_room); (case whu => ktr_units); (case wS => walk_at "tin"); (case whrn => first | rfl | assumption); k_whole); intro _ _ _ _ _ _ wl1; (try k_lt wl1); (try k_sweep); (revert wl1; intro _))
  trivial

set_option maxRecDepth 100000 in
set_option maxHeartbeats 8000000 in
theorem leaves_c {w : World} {p : Program} {loose : List Str} {mean : ExcName → Option Value} {mg mb : Str → Option Value} {dp un : Nat} {gd : Option (List Code)} {cn : Str} {cs : Scope} {a : Addr} {ccd : Value} {cl : List (Str × Addr)} {outer : List Env} {A₀ : Around} {base h₀ : Heap} {L : Addr} {m : Str → Option Value} {news : List (Addr × Obj)} {s : Shared} {Q E : Value → Shared → Prop} {V : Tre} {R : Win} {kids : List Kid}
    (B : Below A₀ base outer h₀) (F : Fr h₀ L s.heap m) (X : (Mine.hd.heap_39 w.params).In h₀) (N : News h₀ L s.heap news) (T : Top p loose mean mg mb h₀) (hk : cs.kind = .function) (hd : dp + 10 < recursionLimit) (hu : un + 100 < cLine)
    (S : St w news V R kids)
    (hret : ∀ (l : Addr) (n9 : Nat) (h9 : Heap) (tk9 : Nat), Fr h₀ L h9 m → News h₀ L h9 ((l, listOf (kids.map fv).toArray n9) :: news) → (∀ p ∈ news, p.1 < l) → Q (.ref l) { s with heap := h9, toks := tk9 }) :
    wpAny (model PySem.Challenge.rw_np0057_01.row.prog w) (ktrTop dp un gd cn cs L a ccd cl outer) (call (.ref 196) [.ref V.x]) Q E s := by
  refine wpAny_call ?_
  k_dflt (refine' code_def (binds := [(Str.ofString "tree", .ref V.x)]) ?k1 ?k2 ?k3 ?k4 ?k5 ?kA ?kF ?kK ?k6 ?k7 ?k8 ?k9 ?kB ?_ ?c2 ?c3 ?c4 ?c5; (case kA => exact rfl); (case kF => exact rfl); (case kK => assumption); (case k1 => exact B); (case k2 => exact F); (case k3 => exact X); (case k4 => exact N); (case k5 => exact T); (case k6 => k_is); (case k7 => k_is); (case k8 => ktr_room); (case k9 => exact BindsTo.of_eq rfl); (case c5 => decide); (case kB => exact locs rfl); (case c2 => exact rfl); (case c3 => exact rfl); (case c4 => exact rfl); k_whole; intro g' L' h' FG' F' N' B' X' T'; (try dsimp only [List.length_cons, List.length_nil]); (try k_fold))
  have hr6 := S.root.root
  obtain ⟨ht1, ht2, ht3, ht4, ht5⟩ := S.tre
  k_steps
  exact hret _ _ _ _ (by k_asm) (by k_asm) (by assumption)

set_option maxRecDepth 100000 in
set_option maxHeartbeats 8000000 in
theorem movable_c {w : World} {p : Program} {loose : List Str} {mean : ExcName → Option Value} {mg mb : Str → Option Value} {dp un : Nat} {gd : Option (List Code)} {cn : Str} {cs : Scope} {a : Addr} {ccd : Value} {cl : List (Str × Addr)} {outer : List Env} {A₀ : Around} {base h₀ : Heap} {L : Addr} {m : Str → Option Value} {news : List (Addr × Obj)} {s : Shared} {Q E : Value → Shared → Prop} {V : Tre} {R W : Win} {kids : List Kid} {tk tk2 t0 : Tok} {ax : Int}
    (B : Below A₀ base outer h₀) (F : Fr h₀ L s.heap m) (X : (Mine.hd.heap_39 w.params).In h₀) (N : News h₀ L s.heap news) (T : Top p loose mean mg mb h₀) (hk : cs.kind = .function) (hd : dp + 10 < recursionLimit) (hu : un + 100 < cLine)
    (S : St w news V R kids) (hW : (W, t0) ∈ kids) (hax : (if R.sort = 2 then (0 : Int) else 1) = ax)
    (hret : ∀ (h9 : Heap) (tk9 : Nat), Fr h₀ L h9 m → News h₀ L h9 news → Q (.int W.num W.tn) { s with heap := h9, toks := tk9 }) :
    wpAny (model PySem.Challenge.rw_np0057_01.row.prog w) (ktrTop dp un gd cn cs L a ccd cl outer) (call (.ref 239) [.ref V.x, .int W.num tk, .int ax tk2]) Q E s := by
  refine wpAny_call ?_
  k_dflt (refine' code_def (binds := [(Str.ofString "tree", .ref V.x), (Str.ofString "number", .int W.num tk), (Str.ofString "axis", .int ax tk2)]) ?k1 ?k2 ?k3 ?k4 ?k5 ?kA ?kF ?kK ?k6 ?k7 ?k8 ?k9 ?kB ?_ ?c2 ?c3 ?c4 ?c5; (case kA => exact rfl); (case kF => exact rfl); (case kK => assumption); (case k1 => exact B); (case k2 => exact F); (case k3 => exact X); (case k4 => exact N); (case k5 => exact T); (case k6 => k_is); (case k7 => k_is); (case k8 => ktr_room); (case k9 => exact BindsTo.of_eq rfl); (case c5 => decide); (case kB => exact locs rfl); (case c2 => exact rfl); (case c3 => exact rfl); (case c4 => exact rfl); k_whole; intro g' L' h' FG' F' N' B' X' T'; (try dsimp only [List.length_cons, List.length_nil]); (try k_fold))
  have ht0 := S.tre
  obtain ⟨ht1, ht2, ht3, ht4, ht5⟩ := S.tre
  obtain ⟨⟨hw1, hw2⟩, hv, hs, hc⟩ := S.leaf _ hW
  obtain ⟨⟨hr1, hr2⟩, hvr, hr4, hr5, hr6, hr7, hr8⟩ := S.root
  have hp : W.par = R.num := S.par _ hW
  have hp0 : ¬ W.par = 0 := by rw [hp]; exact S.rnz
  have hvp : valueAt V.kvs W.par = some (.ref R.x) := by rw [hp]; exact hvr
  repeat' (first | (k_unfold; (try dsimp only)) | ((fail_if_success (with_reducible show wpAny _ _ (exec (Stmt.While _ _ _ _) _) _ _ _)); (fail_if_success (with_reducible show WhlRest _ _ _ _ _ _ _ _ _ _ _)); (fail_if_success (with_reducible show WStep _ _ _ _ _ _)); first | walk1 | (dsimp only; walk1)))
  k_dflt (refine whl_start 100 ?_)
  walk_at "WhlRest"
  k_steps
  exact hret _ _ (by k_asm) (by k_asm)

set_option maxRecDepth 100000 in
set_option maxHeartbeats 8000000 in
theorem givers_c {w : World} {p : Program} {loose : List Str} {mean : ExcName → Option Value} {mg mb : Str → Option Value} {dp un : Nat} {gd : Option (List Code)} {cn : Str} {cs : Scope} {a : Addr} {ccd : Value} {cl : List (Str × Addr)} {outer : List Env} {A₀ : Around} {base h₀ : Heap} {L : Addr} {m : Str → Option Value} {news : List (Addr × Obj)} {s : Shared} {Q E : Value → Shared → Prop} {V : Tre} {R W : Win} {a9 b9 : List Kid} {tk t0 : Tok}
    (B : Below A₀ base outer h₀) (F : Fr h₀ L s.heap m) (X : (Mine.hd.heap_39 w.params).In h₀) (N : News h₀ L s.heap news) (T : Top p loose mean mg mb h₀) (hk : cs.kind = .function) (hd : dp + 10 < recursionLimit) (hu : un + 100 < cLine)
    (S : St w news V R (a9 ++ (W, t0) :: b9))
    (hret : ∀ (l : Addr) (n9 : Nat) (h9 : Heap) (tk9 : Nat), Fr h₀ L h9 m → News h₀ L h9 ((l, listOf ((b9 ++ a9.reverse).map kv).toArray n9) :: news) → (∀ p ∈ news, p.1 < l) → Q (.ref l) { s with heap := h9, toks := tk9 }) :
    wpAny (model PySem.Challenge.rw_np0057_01.row.prog w) (ktrTop dp un gd cn cs L a ccd cl outer) (call (.ref 246) [.ref V.x, .int W.num tk]) Q E s := by
  refine wpAny_call ?_
  k_dflt (refine' code_def (binds := [(Str.ofString "tree", .ref V.x), (Str.ofString "number", .int W.num tk)]) ?k1 ?k2 ?k3 ?k4 ?k5 ?kA ?kF ?kK ?k6 ?k7 ?k8 ?k9 ?kB ?_ ?c2 ?c3 ?c4 ?c5; (case kA => exact rfl); (case kF => exact rfl); (case kK => assumption); (case k1 => exact B); (case k2 => exact F); (case k3 => exact X); (case k4 => exact N); (case k5 => exact T); (case k6 => k_is); (case k7 => k_is); (case k8 => ktr_room); (case k9 => exact BindsTo.of_eq rfl); (case c5 => decide); (case kB => exact locs rfl); (case c2 => exact rfl); (case c3 => exact rfl); (case c4 => exact rfl); k_whole; intro g' L' h' FG' F' N' B' X' T'; (try dsimp only [List.length_cons, List.length_nil]); (try k_fold))
  have hW : (W, t0) ∈ a9 ++ (W, t0) :: b9 := by simp
  obtain ⟨ht1, ht2, ht3, ht4, ht5⟩ := S.tre
  obtain ⟨⟨hw1, hw2⟩, hv, hs, hc⟩ := S.leaf _ hW
  obtain ⟨⟨hr1, hr2⟩, hvr, hr4, ⟨cep, hr5⟩, hr6, hr7, hr8⟩ := S.root
  have hp : W.par = R.num := S.par _ hW
  have hvp : valueAt V.kvs W.par = some (.ref R.x) := by rw [hp]; exact hvr
  have hnd := S.nd
  k_steps
  rename News _ _ _ _ => N9
  refine hret _ 0 _ _ (by k_asm) ?_ (by walk_at "lt_end")
  rw [List.map_append, List.map_reverse]
  exact cb_drop N9 (List.forall_mem_cons.mpr ⟨by k_mem, fun p hp => by k_mem⟩)



end PartD4
section PartD6
theorem words_4 : True := by
  k_with "eval ListComp" => (k_dflt (refine LCg.ListComp_U (F₀ := by k_asm) (by with_unfolding_all rfl) (by decide) (by rfl) (by decide) (by rfl) ?_))
  k_with "CompSrc" => (k_dflt (refine LCg.CompSrc.ledger (by rfl) (by k_asm) (by k_asm) (by k_mem) (by first | exact Nat.le_of_ble_eq_true rfl | (simp only [List.size_toArray, List.length_append, List.length_cons, List.length_reverse, List.length_map, List.length_nil] at *; refine Nat.le_trans (m := 20) ?_ (by decide); omega)) ?_); intro _)
  k_with "call builtin:sum" => ((with_reducible show wpAny _ _ (call (Value.builtin "sum") [Value.ref _]) _ _ _); k_dflt (refine' sumK ?wk0 ?wk1 ?wk2 ?wk3 ?wk4 ?_; (case wk0 => with_unfolding_all rfl); (case wk1 => k_asm); (case wk2 => k_asm); (case wk3 => kmk_list); (case wk4 => assumption); k_whole); intro _ _ _ _ _)
  k_with "call ref" => ((with_reducible show wpAny _ _ (call (Value.ref 69) _) _ _ _); k_dflt (refine' set_size_c ?wB ?wF ?wX ?wN ?wT ?whk ?whd ?whu ?whw ?wU ?_; (case wB => k_asm); (case wF => k_asm); (case wX => k_asm); (case wN => k_asm); (case wT => k_asm); (case whk => first | exact rfl | assumption); (case whd => ktr_room); (case whu => ktr_units); (case whw => walk_at "tin"); (case wU => walk_at "upd"); k_whole); intro _ _ _ _; (try k_sweep))
  trivial

set_option maxRecDepth 100000 in
set_option maxHeartbeats 8000000 in
theorem set_tree_size_c {w : World} {p : Program} {loose : List Str} {mean : ExcName → Option Value} {mg mb : Str → Option Value} {dp un : Nat} {gd : Option (List Code)} {cn : Str} {cs : Scope} {a : Addr} {ccd : Value} {cl : List (Str × Addr)} {outer : List Env} {A₀ : Around} {base h₀ : Heap} {L : Addr} {m : Str → Option Value} {news : List (Addr × Obj)} {s : Shared} {Q E : Value → Shared → Prop} {V : Tre} {W : Win} {tk tk2 tk3 : Tok} {ax sz : Int} {news' : List (Addr × Obj)}
    (B : Below A₀ base outer h₀) (F : Fr h₀ L s.heap m) (X : (Mine.hd.heap_39 w.params).In h₀) (N : News h₀ L s.heap news) (T : Top p loose mean mg mb h₀) (hk : cs.kind = .function) (hd : dp + 20 < recursionLimit) (hu : un + 200 < cLine)
    (ht : TreIn w news V) (hv : valueAt V.kvs W.num = some (.ref W.x)) (hw : WinIn w.params news W) (hs : W.sort = 0) (U : Upd W.d (dictOf (W.es w.params) 16) (dictOf ((W.setSize ax sz tk3).es w.params) 16) news news')
    (hret : ∀ (h9 : Heap) (tk9 : Nat), Fr h₀ L h9 m → News h₀ L h9 news' → Q .none { s with heap := h9, toks := tk9 }) :
    wpAny (model PySem.Challenge.rw_np0057_01.row.prog w) (ktrTop dp un gd cn cs L a ccd cl outer) (call (.ref 225) [.ref V.x, .int W.num tk, .int ax tk2, .int sz tk3]) Q E s := by
  refine wpAny_call ?_
  k_dflt (refine' code_defC (binds := [(Str.ofString "tree", .ref V.x), (Str.ofString "number", .int W.num tk), (Str.ofString "axis", .int ax tk2), (Str.ofString "size", .int sz tk3)]) ?k1 ?k2 ?k3 ?k4 ?k5 ?kA ?kF ?kK ?k6 ?k7 ?k8 ?k9 ?kB ?kD ?_ ?c2 ?c3 ?c4; (case kA => exact rfl); (case kF => exact rfl); (case kK => assumption); (case k1 => exact B); (case k2 => exact F); (case k3 => exact X); (case k4 => exact N); (case k5 => exact T); (case k6 => k_is); (case k7 => k_is); (case k8 => ktr_room); (case k9 => exact BindsTo.of_eq rfl); (case kB => exact rfl); (case kD => decide +kernel); (case c2 => exact rfl); (case c3 => exact rfl); (case c4 => exact rfl); k_whole; intro g' L' h' tk' cells' FG' F' N' Y' B' X' T' l1; k_cells Y'; (try simp only [List.cons_append, List.nil_append] at N'); (try dsimp only); (try k_fold))
  have l2' : ∀ p ∈ news, p.1 < L' + 1 := fun p hp => Nat.lt_succ_of_lt (l1 p hp)
  have ht0 := ht
  have hw0 := hw
  obtain ⟨ht1, ht2, ht3, ht4, ht5⟩ := ht
  obtain ⟨hw1, hw2⟩ := hw
  k_steps
  rename News _ _ _ _ => N4
  exact hret _ _ (by k_asm) (cb_drop N4 (fun p hp => by k_mem))



end PartD6
section PartD7
theorem words_5 : True := by
  k_with "k_mem" => first | with_reducible assumption | with_reducible exact List.mem_cons_self | (with_reducible refine List.mem_cons_of_mem _ ?_; k_mem) | exact MemF.mem (by assumption) | exact SubF.mem (by assumption) (by assumption) | assumption
  k_with "upd" => first | exact UpdF.upd (by assumption) | with_reducible assumption | exact Upd.head (by walk_at "off") | exact Upd.tail (by first | with_reducible assumption | exact ne_cell2 (by assumption) (by assumption) | exact ne_cell1 (by assumption) (by assumption) | exact ne_cell3 (by assumption) (by assumption) | exact ne_all (by walk_at "alllt") (by first | assumption | k_mem) | k_ne) (by walk_at "upd") | k_upd
  k_with "off" => first | with_reducible assumption | exact OffF.off (by assumption) | exact List.forall_mem_nil _ | exact List.forall_mem_cons.mpr ⟨by first | with_reducible assumption | exact ne_cell2 (by assumption) (by assumption) | exact ne_cell1 (by assumption) (by assumption) | exact ne_cell3 (by assumption) (by assumption) | exact ne_all (by walk_at "alllt") (by first | assumption | k_mem) | k_ne, by walk_at "off"⟩ | exact fun p hp => Nat.ne_of_lt (ktn_ltOf (by walk_at "alllt") p hp) | k_all
  k_with "tin" => first | with_reducible assumption | exact TreIn.subF (by assumption) (by assumption) | (with_reducible refine TreIn.cons ?_; walk_at "tin") | (with_reducible refine WinIn.cons ?_; walk_at "tin") | (with_reducible refine LeafIn.cons ?_; walk_at "tin") | (with_reducible refine RootIn.cons ?_; walk_at "tin") | exact St.cons (by walk_at "tin")
  trivial

set_option maxRecDepth 100000 in
set_option maxHeartbeats 8000000 in
theorem set_places_c {w : World} {p : Program} {loose : List Str} {mean : ExcName → Option Value} {mg mb : Str → Option Value} {dp un : Nat} {gd : Option (List Code)} {cn : Str} {cs : Scope} {a : Addr} {ccd : Value} {cl : List (Str × Addr)} {outer : List Env} {A₀ : Around} {base h₀ : Heap} {L : Addr} {m : Str → Option Value} {news : List (Addr × Obj)} {s : Shared} {Q E : Value → Shared → Prop} {V : Tre} {R : Win} {kids : List Kid} {bs : List (Addr × Obj)} {ax : Int}
    (B : Below A₀ base outer h₀) (F : Fr h₀ L s.heap m) (X : (Mine.hd.heap_39 w.params).In h₀) (N : News h₀ L s.heap news) (T : Top p loose mean mg mb h₀) (hk : cs.kind = .function) (hd : dp + 20 < recursionLimit) (hu : un + 200 < cLine)
    (Bs : Ba w bs V R kids) (hn : news = led w.params R kids bs) (hax : (if R.sort = 2 then (0 : Int) else 1) = ax)
    (hret : ∀ (h9 : Heap) (tk9 : Nat) (R' : Win) (kids' : List Kid), Fr h₀ L h9 m → News h₀ L h9 (led w.params R' kids' bs) → Same R R' → Kin kids kids' → (∀ z, kids'.map (·.1.size z) = kids.map (·.1.size z)) → PlK ax 0 kids' → Q .none { s with heap := h9, toks := tk9 }) :
    wpAny (model PySem.Challenge.rw_np0057_01.row.prog w) (ktrTop dp un gd cn cs L a ccd cl outer) (call (.ref 232) [.ref V.x]) Q E s := by
  refine wpAny_call ?_
  k_dflt (refine' code_def (binds := [(Str.ofString "tree", .ref V.x)]) ?k1 ?k2 ?k3 ?k4 ?k5 ?kA ?kF ?kK ?k6 ?k7 ?k8 ?k9 ?kB ?_ ?c2 ?c3 ?c4 ?c5; (case kA => exact rfl); (case kF => exact rfl); (case kK => assumption); (case k1 => exact B); (case k2 => exact F); (case k3 => exact X); (case k4 => exact N); (case k5 => exact T); (case k6 => k_is); (case k7 => k_is); (case k8 => ktr_room); (case k9 => exact BindsTo.of_eq rfl); (case c5 => decide); (case kB => exact locs rfl); (case c2 => exact rfl); (case c3 => exact rfl); (case c4 => exact rfl); k_whole; intro g' L' h' FG' F' N' B' X' T'; (try dsimp only [List.length_cons, List.length_nil]); (try k_fold))
  subst hn
  refine ex1 Bs.fR ?_
  intro nR hX9
  refine an5 hX9 ?_
  clear hX9
  intro hsub hmem hupd hled hkid
  rw [← hled R rfl] at N'
  obtain ⟨ht1, ht2, ht3, ht4, ht5⟩ := Bs.tre
  have ht0 := Bs.tre
  have hr1 := Bs.rx
  have hvr := Bs.rat
  obtain ⟨cep, hr5⟩ := Bs.rchi
  have hvr' : valueAt V.kvs V.root = some (.ref R.x) := by rw [Bs.root]; exact hvr
  repeat' (first | (k_unfold; (try dsimp only)) | ((fail_if_success (with_reducible show wpAny _ _ (exec (Stmt.While _ _ _ _) _) _ _ _)); (fail_if_success (with_reducible show WhlRest _ _ _ _ _ _ _ _ _ _ _)); (fail_if_success (with_reducible show WStep _ _ _ _ _ _)); first | walk1 | (dsimp only; walk1)))
  walk_at "exec While"
  walk_at "WhlRest"
  repeat' (first | (k_unfold; (try dsimp only)) | ((fail_if_success (with_reducible show wpAny _ _ (exec (Stmt.While _ _ _ _) _) _ _ _)); (fail_if_success (with_reducible show WhlRest _ _ _ _ _ _ _ _ _ _ _)); (fail_if_success (with_reducible show WStep _ _ _ _ _ _)); first | walk1 | (dsimp only; walk1)))
  rename_i lw _ lwlt _ _ _ _ _ _ _ _ _ _ _ _ _ _ _ _ _ _ lF N1 I lI
  generalize hR2 : Win.settop (Win.setleft R 0 _) 0 _ = R2 at N1 lI
  have eR : Same R R2 := by rw [← hR2]; exact ⟨rfl, rfl, rfl, rfl, rfl, rfl, rfl, rfl, rfl, rfl, rfl, rfl⟩
  have hlwR : ∀ p ∈ nR R2, p.1 ≠ lw := fun p hp => Nat.ne_of_lt (hupd.lt (ktn_ltOf lwlt.2) p hp)
  have hIw : I ≠ lw := Nat.ne_of_gt lI.2.2.1
  have hIR : ∀ p ∈ nR R2, p.1 ≠ I := fun p hp => Nat.ne_of_lt (ktn_ltOf lI.2.2.2.2 p hp)
  have hmR : (R.d, dictOf (R2.es w.params) 16) ∈ nR R2 := hmem.mem
  have hsR : ∀ q ∈ bs, q ∈ nR R2 := fun q hq => hsub.mem hq
  have hkR : ∀ k ∈ kids, de w.params k.1 ∈ nR R2 := fun k hk => hkid k hk R2
  have hle : nR R2 = led w.params R2 kids bs := hled R2 eR.d
  refine lst_ind (fun vs m' nw' => ∃ (don : List Wt) (r : List Kid) (ll tp : Int) (tll ttp : Tok) (nw : Nat), vs = r.map kv ∧ don.map (·.kid) ++ r = kids ∧ OffE ax 0 don ∧ (if ax = 0 then ll else tp) = (don.map fun e => e.kid.1.size ax).sum ∧
      m' (Str.ofString "tree") = some (.ref V.x) ∧ m' (Str.ofString "waiting") = some (.ref lw) ∧ m' (Str.ofString "here") = some (.ref R.x) ∧ m' (Str.ofString "left") = some (.int ll tll) ∧ m' (Str.ofString "top") = some (.int tp ttp) ∧
      (∀ e ∈ don, e.a ≠ lw ∧ e.a ≠ I ∧ ∀ p ∈ nR R2, p.1 ≠ e.a) ∧ ∀ p ∈ (lw, listOf (don.map Wt.rf).toArray nw) :: (don.map Wt.tup ++ nR R2), p ∈ nw')
    ⟨[], kids, 0, 0, _, _, 0 + 1, rfl, rfl, trivial, by simp, rfl, rfl, rfl, rfl, rfl, by simp, ?h0⟩ ?turn ?done
  case h0 => exact List.forall_mem_cons.mpr ⟨by k_mem, fun p hp => by k_mem⟩
  case turn =>
    clear lF N1
    intro v r m' nw' hX9 it h tk hc F2 N2
    refine ex7 hX9 ?_
    clear hX9
    intro don r' ll tp tll ttp nw hX9
    refine an11 hX9 ?_
    clear hX9
    intro hv hsplit hoff hsum m1 m2 m3 m4 m5 hdon hin
    cases r' with
    | nil => cases hv
    | cons p rs =>
      obtain ⟨W, t⟩ := p
      obtain ⟨rfl, rfl⟩ := List.cons.inj hv
      have hWk : (W, t) ∈ kids := by rw [← hsplit]; simp
      have N3 : News g' L' h ((I, it) :: (lw, listOf (don.map Wt.rf).toArray nw) :: (don.map Wt.tup ++ nR R2)) := cb_drop N2 (List.forall_mem_cons.mpr ⟨.head _, fun p hp => .tail _ (hin p hp)⟩)
      clear N2
      have F3 : Fr g' L' h _ := F2
      clear F2
      have hlen : (don.map Wt.rf).length ≤ 9 := by have := congrArg List.length hsplit; have := Bs.len; simp at *; omega
      generalize hnx : don.map Wt.tup ++ nR R2 = nx at N3
      have hofx : ∀ p ∈ nx, p.1 ≠ lw := by
        rw [← hnx]
        intro p hp
        rcases List.mem_append.mp hp with hp | hp
        · obtain ⟨e, he, rfl⟩ := List.mem_map.mp hp
          exact (hdon e he).1
        · exact hlwR p hp
      have hmx : ∀ q ∈ nR R2, q ∈ nx := fun q hq => by rw [← hnx]; exact List.mem_append_right _ hq
      have hx1 : (R.x, instObj 93 R.d) ∈ nx := hmx _ (hsR _ hr1)
      have hx2 : (R.d, dictOf (R2.es w.params) 16) ∈ nx := hmx _ hmR
      have hx3 : (V.x, instObj 164 V.d) ∈ nx := hmx _ (hsR _ ht1)
      have hx4 : (V.d, dictOf (V.es w.params) 7) ∈ nx := hmx _ (hsR _ ht2)
      have hx5 : (V.wd, V.wo) ∈ nx := hmx _ (hsR _ ht3)
      have hx6 : (W.x, instObj 93 W.d) ∈ nx := hmx _ (hsR _ (Bs.kx _ hWk).1)
      have hx7 : (W.d, dictOf (W.es w.params) 16) ∈ nx := hmx _ (hkR _ hWk)
      have hvW : valueAt V.kvs W.num = some (.ref W.x) := (Bs.kx _ hWk).2.1
      by_cases hal : (if R2.sort = 2 then (0 : Int) else 1) = 0
      · repeat' (first | (k_unfold; (try dsimp only)) | ((fail_if_success (with_reducible show wpAny _ _ (exec (Stmt.While _ _ _ _) _) _ _ _)); (fail_if_success (with_reducible show WhlRest _ _ _ _ _ _ _ _ _ _ _)); (fail_if_success (with_reducible show WStep _ _ _ _ _ _)); first | walk1 | (dsimp only; walk1)))
        rename_i D _ l1z _ _ _ _ _ F5 N5
        have e0 : ax = 0 := by rw [← hax, ← eR.sort]; exact hal
        refine LStep.next ((lw, listOf ((don ++ [Wt.mk (W, t) D ll tp tll ttp]).map Wt.rf).toArray (nw + 1)) :: ((don ++ [Wt.mk (W, t) D ll tp tll ttp]).map Wt.tup ++ nR R2)) F5 N5 ?_ ?_ ?_ ⟨don ++ [Wt.mk (W, t) D ll tp tll ttp], rs, ll + W.wid, tp, _, ttp, nw + 1, rfl, by rw [← hsplit]; simp, hoff.snoc (by rw [hsum]; simp), ?_, m1, m2, m3, rfl, m5, ?_, fun p hp => hp⟩
        · rw [← hnx]
          intro p hp
          simp only [List.map_append, List.map_cons, List.map_nil, List.append_assoc, List.cons_append, List.nil_append, List.mem_cons, List.mem_append] at hp ⊢
          rcases hp with h | h | h | h | h
          · exact .inr (.inl h)
          · exact .inr (.inr (.inl h))
          · exact .inr (.inr (.inr (.inl h)))
          · exact .inl h
          · exact .inr (.inr (.inr (.inr h)))
        · intro p hp
          simp only [List.map_append, List.map_cons, List.map_nil, List.append_assoc, List.cons_append, List.nil_append, List.mem_cons, List.mem_append] at hp
          rcases hp with rfl | h | rfl | h
          · exact Ne.symm hIw
          · obtain ⟨e, he, rfl⟩ := List.mem_map.mp h
            exact (hdon e he).2.1
          · exact Nat.ne_of_gt l1z.1
          · exact hIR p h
        · rw [eR.chi]; exact .tail _ (List.mem_append_right _ (hsR _ hr5))
        · rw [List.map_append, List.sum_append, ← hsum]
          simp [e0, Win.size]
        · intro e he
          rcases List.mem_append.mp he with he | he
          · exact hdon e he
          · rw [List.mem_singleton.mp he]
            exact ⟨Nat.ne_of_gt l1z.2.1, Nat.ne_of_gt l1z.1, fun p hp => Nat.ne_of_lt (ktn_ltOf l1z.2.2 p (hmx p hp))⟩
      · repeat' (first | (k_unfold; (try dsimp only)) | ((fail_if_success (with_reducible show wpAny _ _ (exec (Stmt.While _ _ _ _) _) _ _ _)); (fail_if_success (with_reducible show WhlRest _ _ _ _ _ _ _ _ _ _ _)); (fail_if_success (with_reducible show WStep _ _ _ _ _ _)); first | walk1 | (dsimp only; walk1)))
        rename_i D _ l1z _ _ _ _ _ F5 N5
        have e0 : ¬ ax = 0 := by rw [← hax, ← eR.sort]; exact hal
        refine LStep.next ((lw, listOf ((don ++ [Wt.mk (W, t) D ll tp tll ttp]).map Wt.rf).toArray (nw + 1)) :: ((don ++ [Wt.mk (W, t) D ll tp tll ttp]).map Wt.tup ++ nR R2)) F5 N5 ?_ ?_ ?_ ⟨don ++ [Wt.mk (W, t) D ll tp tll ttp], rs, ll, tp + W.hei, tll, _, nw + 1, rfl, by rw [← hsplit]; simp, hoff.snoc (by rw [hsum]; simp), ?_, m1, m2, m3, m4, rfl, ?_, fun p hp => hp⟩
        · rw [← hnx]
          intro p hp
          simp only [List.map_append, List.map_cons, List.map_nil, List.append_assoc, List.cons_append, List.nil_append, List.mem_cons, List.mem_append] at hp ⊢
          rcases hp with h | h | h | h | h
          · exact .inr (.inl h)
          · exact .inr (.inr (.inl h))
          · exact .inr (.inr (.inr (.inl h)))
          · exact .inl h
          · exact .inr (.inr (.inr (.inr h)))
        · intro p hp
          simp only [List.map_append, List.map_cons, List.map_nil, List.append_assoc, List.cons_append, List.nil_append, List.mem_cons, List.mem_append] at hp
          rcases hp with rfl | h | rfl | h
          · exact Ne.symm hIw
          · obtain ⟨e, he, rfl⟩ := List.mem_map.mp h
            exact (hdon e he).2.1
          · exact Nat.ne_of_gt l1z.1
          · exact hIR p h
        · rw [eR.chi]; exact .tail _ (List.mem_append_right _ (hsR _ hr5))
        · rw [List.map_append, List.sum_append, ← hsum]
          simp [e0, Win.size]
        · intro e he
          rcases List.mem_append.mp he with he | he
          · exact hdon e he
          · rw [List.mem_singleton.mp he]
            exact ⟨Nat.ne_of_gt l1z.2.1, Nat.ne_of_gt l1z.1, fun p hp => Nat.ne_of_lt (ktn_ltOf l1z.2.2 p (hmx p hp))⟩
  case done =>
    clear lF N1
    intro m' nw' h tk hX9 F2 N2
    refine ex7 hX9 ?_
    clear hX9
    intro don r' ll tp tll ttp nw hX9
    refine an11 hX9 ?_
    clear hX9
    intro hv hsplit hoff hsum m1 m2 m3 m4 m5 hdon hin
    have hr' : r' = [] := List.map_eq_nil_iff.mp hv.symm
    subst hr'
    rw [List.append_nil] at hsplit
    subst hsplit
    repeat' (first | (k_unfold; (try dsimp only)) | ((fail_if_success (with_reducible show wpAny _ _ (exec (Stmt.While _ _ _ _) _) _ _ _)); (fail_if_success (with_reducible show WhlRest _ _ _ _ _ _ _ _ _ _ _)); (fail_if_success (with_reducible show WStep _ _ _ _ _ _)); first | walk1 | (dsimp only; walk1)))
    have N4 : News g' L' h ((lw, listOf (don.map Wt.rf).toArray nw) :: (don.map Wt.tup ++ led w.params R2 (don.map (·.kid)) bs)) := fun p hp => N2 p (hin p (hle ▸ hp))
    have F4 : Fr g' L' h m' := F2
    clear N2 F2
    refine whl_ind (σ := List Wt × List Wt) (fun c s' => ∃ h tk mm nw, s' = { s with heap := h, toks := tk } ∧ c.1 ++ c.2 = don ∧ Fr g' L' h mm ∧ mm (Str.ofString "tree") = some (.ref V.x) ∧ mm (Str.ofString "waiting") = some (.ref lw) ∧ News g' L' h ((lw, listOf (c.1.map Wt.rf).toArray nw) :: (c.1.map Wt.tup ++ led w.params R2 (c.1.map (·.kid) ++ c.2.map Wt.fin) bs)))
      (fun c => c.1.length) (don, []) ⟨_, _, _, nw, rfl, by simp, F4, m1, m2, by rw [List.map_nil, List.append_nil]; exact N4⟩ (by first | passes_own | with_unfolding_all passes_own) ?_
    clear N4 F4 m1 m2 m3 m4 m5 hin
    rintro ⟨todo, gone⟩ s' ⟨h, tk, mm, nw, rfl, hsplit, F6, m1, m2, N6⟩
    rcases List.eq_nil_or_concat todo with rfl | ⟨t, e, he9⟩
    · simp only [List.map_nil, List.nil_append] at N6 hsplit
      subst hsplit
      repeat' (first | (k_unfold; (try dsimp only)) | ((fail_if_success (with_reducible show wpAny _ _ (exec (Stmt.While _ _ _ _) _) _ _ _)); (fail_if_success (with_reducible show WhlRest _ _ _ _ _ _ _ _ _ _ _)); (fail_if_success (with_reducible show WStep _ _ _ _ _ _)); first | walk1 | (dsimp only; walk1)))
      rename News _ _ _ _ => N8
      exact hret _ _ R2 (gone.map Wt.fin) (by k_asm) (cb_drop N8 (fun p hp => .tail _ (.tail _ hp))) eR fin_kin (fun z => fin_size) hoff.pl
    · rw [List.concat_eq_append] at he9
      subst he9
      obtain ⟨⟨W, tk0⟩, ea, l, tp, tll, ttp⟩ := e
      have hed := hdon (Wt.mk (W, tk0) ea l tp tll ttp) (by rw [← hsplit]; simp)
      have hWk : (W, tk0) ∈ don.map (·.kid) := by rw [← hsplit]; simp
      have hkin : Kin (don.map (·.kid)) (t.map (·.kid) ++ (W, tk0) :: gone.map Wt.fin) := by
        rw [← hsplit]
        simp only [List.map_append, List.map_cons, List.map_nil, List.append_assoc, List.cons_append, List.nil_append]
        exact Kin.refl.append (.cons .refl fin_kin)
      have hB := Bs.move eR hkin
      refine ex1 hB.fK ?_
      intro nK hX9
      refine an5 hX9 ?_
      clear hX9
      intro ksub kmem kupd kled kR
      have hdW : de w.params W ∈ nR R2 := hkR _ hWk
      have hlwd : lw ≠ W.d := Ne.symm (hlwR _ hdW)
      have head : ea ≠ W.d := Ne.symm (hed.2.2 _ hdW)
      have hea : ea ≠ lw := hed.1
      have htd : ∀ p ∈ t.map Wt.tup, p.1 ≠ W.d := fun p hp => by
        obtain ⟨e, he, rfl⟩ := List.mem_map.mp hp
        exact Ne.symm ((hdon e (by rw [← hsplit]; simp [he])).2.2 _ hdW)
      have N7 : News g' L' h ((lw, listOf (t.map Wt.rf ++ [Value.ref ea]).toArray nw) :: (ea, { cls := .type "tuple", data := .seq #[.int W.num tk0, .int l tll, .int tp ttp] }) :: (t.map Wt.tup ++ nK W)) := by
        rw [kled W rfl]
        refine cb_drop N6 (fun p hp => ?_)
        simp only [List.map_append, List.map_cons, List.map_nil, List.append_assoc, List.cons_append, List.nil_append, List.mem_cons, List.mem_append] at hp ⊢
        rcases hp with h | h | h | h
        · exact .inl h
        · exact .inr (.inr (.inl h))
        · exact .inr (.inl h)
        · exact .inr (.inr (.inr h))
      clear N6
      have ksub' := ksub.pre (pre := t.map Wt.tup)
      have kmem' := kmem.pre (pre := t.map Wt.tup)
      have kupd' := kupd.pre (pre := t.map Wt.tup) htd
      obtain ⟨nX, hX⟩ : ∃ f : Win → List (Addr × Obj), f = fun Wa => t.map Wt.tup ++ nK Wa := ⟨_, rfl⟩
      rw [← hX] at ksub' kmem' kupd'
      have N9 : News g' L' h ((lw, listOf (t.map Wt.rf ++ [Value.ref ea]).toArray nw) :: (ea, { cls := .type "tuple", data := .seq #[.int W.num tk0, .int l tll, .int tp ttp] }) :: nX W) := by rw [hX]; exact N7
      clear N7
      have hofX : OffF lw nX := kupd'.offF (Ra := W) (by
        rw [hX]
        intro p hp
        rcases List.mem_append.mp hp with hp | hp
        · obtain ⟨e, he, rfl⟩ := List.mem_map.mp hp
          exact (hdon e (by rw [← hsplit]; simp [he])).1
        · rw [kled W rfl] at hp
          obtain ⟨q, hq, e⟩ := key_mem (led_keys .refl hkin) hp
          rw [← e]
          exact hlwR q (hle ▸ hq))
      have hlen : (t.map Wt.rf).length ≤ 9 := by have := congrArg List.length hsplit; have := Bs.len; simp at *; omega
      have hvW : valueAt V.kvs W.num = some (.ref W.x) := (Bs.kx _ hWk).2.1
      have hx6 : (W.x, instObj 93 W.d) ∈ bs := (Bs.kx _ hWk).1
      obtain ⟨cw, hx7⟩ := (Bs.kx _ hWk).2.2.2.2
      repeat' (first | (k_unfold; (try dsimp only)) | ((fail_if_success (with_reducible show wpAny _ _ (exec (Stmt.While _ _ _ _) _) _ _ _)); (fail_if_success (with_reducible show WhlRest _ _ _ _ _ _ _ _ _ _ _)); (fail_if_success (with_reducible show WStep _ _ _ _ _ _)); first | walk1 | (dsimp only; walk1)))
      rename News _ _ _ _ => N8
      rename Fr _ _ _ _ => F8
      have e2 : nX ((W.setleft l tll).settop tp ttp) = t.map Wt.tup ++ led w.params R2 (t.map (·.kid) ++ ((Wt.mk (W, tk0) ea l tp tll ttp) :: gone).map Wt.fin) bs := by
        rw [hX, List.map_cons]
        exact congrArg (t.map Wt.tup ++ ·) (kled ((W.setleft l tll).settop tp ttp) rfl)
      refine ⟨(t, Wt.mk (W, tk0) ea l tp tll ttp :: gone), by simp, _, _, _, nw + 1, rfl, by simpa using hsplit, F8, m1, m2, ?_⟩
      rw [← e2]
      exact cb_drop N8 (List.forall_mem_cons.mpr ⟨by k_mem, fun p hp => by k_mem⟩)



end PartD7
section PartD5
theorem words_6 : True := by
  k_with "call ref" => ((with_reducible show wpAny _ _ (call (Value.ref 246) _) _ _ _); k_dflt (refine' givers_c ?wB ?wF ?wX ?wN ?wT ?whk ?whd ?whu ?wS ?_; (case wB => k_asm); (case wF => k_asm); (case wX => k_asm); (case wN => k_asm); (case wT => k_asm); (case whk => first | exact rfl | assumption); (case whd => ktr_room); (case whu => ktr_units); (case wS => walk_at "tin"); k_whole); intro _ _ _ _ _ _ wl1; (try k_lt wl1); (try k_sweep); (revert wl1; intro _))
  k_with "call ref" => ((with_reducible show wpAny _ _ (call (Value.ref 215) _) _ _ _); k_dflt (refine' least_size_c ?wB ?wF ?wX ?wN ?wT ?whk ?whd ?whu ?wht ?whv ?whw ?whc ?whs ?_; (case wB => k_asm); (case wF => k_asm); (case wX => k_asm); (case wN => k_asm); (case wT => k_asm); (case whk => first | exact rfl | assumption); (case whd => ktr_room); (case whu => ktr_units); (case wht => walk_at "tin"); (case whv => k_asm); (case whw => walk_at "tin"); (case whc => k_mem); (case whs => assumption); k_whole); intro _ _ _ _ _; (try k_sweep))
  trivial

set_option maxRecDepth 100000 in
set_option maxHeartbeats 8000000 in
theorem can_give_c {w : World} {p : Program} {loose : List Str} {mean : ExcName → Option Value} {mg mb : Str → Option Value} {dp un : Nat} {gd : Option (List Code)} {cn : Str} {cs : Scope} {a : Addr} {ccd : Value} {cl : List (Str × Addr)} {outer : List Env} {A₀ : Around} {base h₀ : Heap} {L : Addr} {m : Str → Option Value} {news : List (Addr × Obj)} {s : Shared} {Q E : Value → Shared → Prop} {V : Tre} {R W : Win} {a9 b9 : List Kid} {tk tk2 t0 : Tok} {ax : Int}
    (B : Below A₀ base outer h₀) (F : Fr h₀ L s.heap m) (X : (Mine.hd.heap_39 w.params).In h₀) (N : News h₀ L s.heap news) (T : Top p loose mean mg mb h₀) (hk : cs.kind = .function) (hd : dp + 20 < recursionLimit) (hu : un + 200 < cLine)
    (S : St w news V R (a9 ++ (W, t0) :: b9))
    (hret : ∀ (t9 : Tok) (h9 : Heap) (tk9 : Nat), Fr h₀ L h9 m → News h₀ L h9 news → Q (.int (((b9 ++ a9.reverse).map fun k => k.1.size ax - V.least ax).sum) t9) { s with heap := h9, toks := tk9 }) :
    wpAny (model PySem.Challenge.rw_np0057_01.row.prog w) (ktrTop dp un gd cn cs L a ccd cl outer) (call (.ref 251) [.ref V.x, .int W.num tk, .int ax tk2]) Q E s := by
  refine wpAny_call ?_
  k_dflt (refine' code_defC (binds := [(Str.ofString "tree", .ref V.x), (Str.ofString "number", .int W.num tk), (Str.ofString "axis", .int ax tk2)]) ?k1 ?k2 ?k3 ?k4 ?k5 ?kA ?kF ?kK ?k6 ?k7 ?k8 ?k9 ?kB ?kD ?_ ?c2 ?c3 ?c4; (case kA => exact rfl); (case kF => exact rfl); (case kK => assumption); (case k1 => exact B); (case k2 => exact F); (case k3 => exact X); (case k4 => exact N); (case k5 => exact T); (case k6 => k_is); (case k7 => k_is); (case k8 => ktr_room); (case k9 => exact BindsTo.of_eq rfl); (case kB => exact rfl); (case kD => decide +kernel); (case c2 => exact rfl); (case c3 => exact rfl); (case c4 => exact rfl); k_whole; intro g' L' h' tk' cells' FG' F' N' Y' B' X' T' l1; k_cells Y'; (try simp only [List.cons_append, List.nil_append] at N'); (try dsimp only); (try k_fold))
  have l2' : ∀ p ∈ news, p.1 < L' + 1 := fun p hp => Nat.lt_succ_of_lt (l1 p hp)
  have hlen := S.root.len
  have hnd := S.nd
  repeat' (first | (k_unfold; (try dsimp only)) | ((fail_if_success (with_reducible show wpAny _ _ (exec (Stmt.While _ _ _ _) _) _ _ _)); (fail_if_success (with_reducible show WhlRest _ _ _ _ _ _ _ _ _ _ _)); (fail_if_success (with_reducible show WStep _ _ _ _ _ _)); first | walk1 | (dsimp only; walk1)))
  refine comp_ind (fun i ys => IntsAre ys (((b9 ++ a9.reverse).take i).map fun k => k.1.size ax - V.least ax)) .nil (Or.inr ⟨_, by k_mem, rfl, _, rfl⟩) ?turn ?done
  case turn =>
    intro i ys hi hys v I oI C oC D m₂ h tk E' hP hoC hx F2 N2 off ne
    obtain ⟨⟨W2, t2⟩, hq, hv⟩ := kid_at hP
    subst hv
    have hmem : (W2, t2) ∈ a9 ++ (W, t0) :: b9 := by
      have := List.mem_of_getElem? hq
      simp only [List.mem_append, List.mem_reverse, List.mem_cons] at this ⊢
      rcases this with h | h
      · exact .inr (.inr h)
      · exact .inl h
    obtain ⟨⟨hw1, hw2⟩, hv, hs, ⟨cep, hc⟩⟩ := S.leaf _ hmem
    have ht0 := S.tre
    obtain ⟨ht1, ht2, ht3, ht4, ht5⟩ := S.tre
    have hw0 : WinIn w.params news W2 := ⟨hw1, hw2⟩
    repeat' (first | (k_unfold; (try dsimp only)) | ((fail_if_success (with_reducible show wpAny _ _ (exec (Stmt.While _ _ _ _) _) _ _ _)); (fail_if_success (with_reducible show WhlRest _ _ _ _ _ _ _ _ _ _ _)); (fail_if_success (with_reducible show WStep _ _ _ _ _ _)); first | walk1 | (dsimp only; walk1)))
    rename News _ _ _ _ => N3
    rename Fr _ _ _ _ => F3
    exact CStep.intro F3 N3 (fun p hp => hp) (ints_snoc (f := fun k => k.1.size ax - V.least ax) hys hq)
  case done =>
    intro ys hys
    have hys' : IntsAre ys ((b9 ++ a9.reverse).map fun k => k.1.size ax - V.least ax) := by rwa [List.take_of_length_le (by simp)] at hys
    intro D h tk F3 N3 off
    repeat' (first | (k_unfold; (try dsimp only)) | ((fail_if_success (with_reducible show wpAny _ _ (exec (Stmt.While _ _ _ _) _) _ _ _)); (fail_if_success (with_reducible show WhlRest _ _ _ _ _ _ _ _ _ _ _)); (fail_if_success (with_reducible show WStep _ _ _ _ _ _)); first | walk1 | (dsimp only; walk1)))
    rename News _ _ _ _ => N4
    exact hret _ _ _ (by k_asm) (cb_drop N4 (fun p hp => by k_mem))



end PartD5
section PartExc3

theorem fr_but2 {h₀ h h' : Heap} {L I J : Addr} {m : Str → Option Value} (F : Fr h₀ L h m) (hk : ∀ b o, b ≠ I → b ≠ J → h.get? b = some o → h'.get? b = some o) (h1 : L ≠ I) (h2 : L ≠ J) (h3 : h₀.get? I = none) (h4 : h₀.get? J = none) : Fr h₀ L h' m :=
  ⟨F.ns.at' fun o e => hk L o h1 h2 e, fun b o e => hk b o (fun z => by rw [z, h3] at e; cases e) (fun z => by rw [z, h4] at e; cases e) (F.keep b o e), F.above⟩
abbrev eO (fs : Array Value) (dd : Option Addr) : Obj := { cls := .ref 38, dict := dd, data := .fields fs }
set_option maxRecDepth 100000 in
set_option maxHeartbeats 8000000 in
theorem ls_init_c {w : World} {p : Program} {loose : List Str} {mean : ExcName → Option Value} {mg mb : Str → Option Value} {dp un : Nat} {gd : Option (List Code)} {cn : Str} {cs : Scope} {a : Addr} {ccd : Value} {cl : List (Str × Addr)} {outer : List Env} {A₀ : Around} {base h₀ : Heap} {L : Addr} {m : Str → Option Value} {news : List (Addr × Obj)} {s : Shared} {Q E : Value → Shared → Prop} {e : Addr} {fs : Array Value} {v1 v2 : Value} {rest : List (Addr × Obj)}
    (B : Below A₀ base outer h₀) (F : Fr h₀ L s.heap m) (X : (Mine.hd.heap_39 w.params).In h₀) (N : News h₀ L s.heap news) (T : Top p loose mean mg mb h₀) (hk : cs.kind = .function) (hd : dp + 5 < recursionLimit) (hu : un + 60 < cLine)
    (hnw : news = (e, eO fs none) :: rest) (hoff : ∀ p ∈ rest, p.1 ≠ e)
    (hret : ∀ (h9 : Heap) (tk9 : Nat) (dx : Addr) (od : Obj) (mA : Str → Option Value), Fr h₀ L h9 m → News h₀ L h9 ((e, eO fs (some dx)) :: (dx, od) :: rest) → LCg.NsObj od mA → mA (Str.ofString "symbol") = some v1 → dx ≠ e → (∀ p ∈ rest, p.1 < dx) → Q .none { s with heap := h9, toks := tk9 }) :
    wpAny (model PySem.Challenge.rw_np0057_01.row.prog w) (ktrTop dp un gd cn cs L a ccd cl outer) (call (.ref 35) [.ref e, v1, v2]) Q E s := by
  refine wpAny_call ?_
  k_dflt (refine' code_def (binds := [(Str.ofString "self", .ref e), (Str.ofString "symbol", v1), (Str.ofString "data", v2)]) ?k1 ?k2 ?k3 ?k4 ?k5 ?kA ?kF ?kK ?k6 ?k7 ?k8 ?k9 ?kB ?_ ?c2 ?c3 ?c4 ?c5; (case kA => exact rfl); (case kF => exact rfl); (case kK => assumption); (case k1 => exact B); (case k2 => exact F); (case k3 => exact X); (case k4 => exact N); (case k5 => exact T); (case k6 => k_is); (case k7 => k_is); (case k8 => ktr_room); (case k9 => exact BindsTo.of_eq rfl); (case c5 => decide); (case kB => exact locs rfl); (case c2 => exact rfl); (case c3 => exact rfl); (case c4 => exact rfl); k_whole; intro g' L' h' FG' F' N' B' X' T'; (try dsimp only [List.length_cons, List.length_nil]); (try k_fold))
  subst hnw
  repeat' (first | (k_unfold; (try dsimp only)) | ((fail_if_success (with_reducible show wpAny _ _ (exec (Stmt.While _ _ _ _) _) _ _ _)); (fail_if_success (with_reducible show WhlRest _ _ _ _ _ _ _ _ _ _ _)); (fail_if_success (with_reducible show WStep _ _ _ _ _ _)); first | walk1 | (dsimp only; walk1)))
  refine ex15 (ls_of (X'.keeps F'.keep) (ls_in w.params)) ?_
  intro nm q N0 bs sn sub ab col dd k0 k1 k2 k3 k5 mN C
  have hx := (N' _ (.head _)).1
  refine ls_set_new C C.2.2.2.2.1 lk_sym hx rfl (fun c h => by cases h) (fun _ => rfl) rfl fun h1 tk1 e1 e2 e3 => ?_
  have e1' : h1.get? e = some (eO fs (some h'.objs.size)) := e1
  have hLe : L' ≠ e := Ne.symm (N' _ (.head _)).2.1
  have hge : g'.get? e = none := (N' _ (.head _)).2.2
  have hk1 : ∀ b o, b ∉ [e] → h'.get? b = some o → h1.get? b = some o := fun b o hb ho => e3 b o (by simpa using hb) ho
  have F1 := LCg.fr_but F' hk1 hLe hge
  have N1 : News g' L' h1 rest := LCg.news_but (fun p hp => N' p (.tail _ hp)) hk1 hoff
  have hdx : h'.objs.size ≠ e := Ne.symm (Nat.ne_of_lt (Heap.lt_size hx))
  have hdL : h'.objs.size ≠ L' := Ne.symm (Nat.ne_of_lt F'.ns.lt)
  have hdg : g'.get? h'.objs.size = none := next_is_new F'
  have hdr : ∀ p ∈ rest, p.1 < h'.objs.size := fun p hp => Heap.lt_size (N' p (.tail _ hp)).1
  generalize h'.objs.size = dx at e1' e2 hdx hdL hdg hdr
  clear e1 e3 hk1 N' F'
  repeat' (first | (k_unfold; (try dsimp only)) | ((fail_if_success (with_reducible show wpAny _ _ (exec (Stmt.While _ _ _ _) _) _ _ _)); (fail_if_success (with_reducible show WhlRest _ _ _ _ _ _ _ _ _ _ _)); (fail_if_success (with_reducible show WStep _ _ _ _ _ _)); first | walk1 | (dsimp only; walk1)))
  refine ex15 (ls_of (X'.keeps F1.keep) (ls_in w.params)) ?_
  intro nm q N0 bs sn sub ab col dd k0 k1 k2 k3 k5 mN C
  refine store_attr PySem.F.store_Exception C.1 C.2.1 C.2.2.2.1 C.2.2.2.2.2.1 lk_dat (x := e) (fun z => ?hz) (I := ⟨_, e1', rfl, (fun c h => by cases h), .inr ⟨dx, rfl, hdx, e2⟩⟩) (fun h2 tk2 I2 k2 o2 => ?_)
  case hz =>
    obtain ⟨_, _, _, _, _, _, _, _, _, _, _, _, _, _, _, C0⟩ := ls_of X' (ls_in w.params)
    rw [z, C0.1] at hge
    cases hge
  obtain ⟨⟨oc, odd, oda, osl⟩, p1, p2, p3, p4, p5⟩ := o2 _ e1'
  dsimp only at p2 p3 p4 p5
  have p5' := p5 dx rfl
  subst p2 p3 p4 p5'
  obtain ⟨o3, q1, q2, q3, q4⟩ := I2
  obtain rfl := Option.some.inj (p1.symm.trans q1)
  have hns : h2.Ns1 dx (fun y => if y = Str.ofString "data" then some v2 else if y = Str.ofString "symbol" then some v1 else none) := by
    rcases q4 with ⟨q4, _⟩ | ⟨d9, q4, _, q5⟩
    · cases q4
    · cases q4
      exact q5
  obtain ⟨od, hod, hN⟩ := LCg.ns_obj hns.ns
  have hk2 : ∀ b o, b ≠ e → b ≠ dx → h1.get? b = some o → h2.get? b = some o := fun b o hb hb2 ho => k2 b o hb (fun o₀ d9 z1 z2 => by rw [e1'] at z1; cases z1; cases z2; exact hb2) ho
  have F2 := fr_but2 F1 hk2 hLe (Ne.symm hdL) hge hdg
  have N2 : News g' L' h2 ((e, eO fs (some dx)) :: (dx, od) :: rest) := fun p hp => by
    rcases List.mem_cons.mp hp with rfl | hp
    · exact ⟨p1, Ne.symm hLe, hge⟩
    · rcases List.mem_cons.mp hp with rfl | hp
      · exact ⟨hod, hdL, hdg⟩
      · exact ⟨hk2 _ _ (hoff p hp) (Nat.ne_of_lt (hdr p hp)) (N1 p hp).1, (N1 p hp).2⟩
  clear F1 N1 hk2
  repeat' (first | (k_unfold; (try dsimp only)) | ((fail_if_success (with_reducible show wpAny _ _ (exec (Stmt.While _ _ _ _) _) _ _ _)); (fail_if_success (with_reducible show WhlRest _ _ _ _ _ _ _ _ _ _ _)); (fail_if_success (with_reducible show WStep _ _ _ _ _ _)); first | walk1 | (dsimp only; walk1)))
  exact hret _ _ dx od _ (by k_asm) (by k_asm) hN rfl hdx hdr


def fnTy (K : Frag) : Bool := match K.lookup 35 with
  | some o => o.cls == .type "function"
  | none => false
theorem fn_ty (P : Params) : fnTy (Mine.hd.heap_39 P) = true := by kernel_rfl
theorem fn_at {K : Frag} {h : Heap} (X : K.In h) (e : fnTy K = true) : ∃ o, h.get? 35 = some o ∧ o.cls = .type "function" := by
  unfold fnTy at e
  split at e
  · rename_i o ho
    exact ⟨o, X _ _ ho, beq_iff_eq.mp e⟩
  · cases e
abbrev lsF (t : Addr) : Array Value := #[.ref t, .none, .none, .none, .bool false, .none]
abbrev tupO (vs : List Value) : Obj := { cls := .type "tuple", data := .seq vs.toArray }
set_option maxRecDepth 100000 in
set_option maxHeartbeats 8000000 in
theorem ls_c {w : World} {p : Program} {loose : List Str} {mean : ExcName → Option Value} {mg mb : Str → Option Value} {dp un : Nat} {gd : Option (List Code)} {cn : Str} {cs : Scope} {a : Addr} {ccd : Value} {cl : List (Str × Addr)} {outer : List Env} {A₀ : Around} {base h₀ : Heap} {L : Addr} {m : Str → Option Value} {news : List (Addr × Obj)} {s : Shared} {Q E : Value → Shared → Prop} {v1 v2 : Value}
    (B : Below A₀ base outer h₀) (F : Fr h₀ L s.heap m) (X : (Mine.hd.heap_39 w.params).In h₀) (N : News h₀ L s.heap news) (T : Top p loose mean mg mb h₀) (hk : cs.kind = .function) (hd : dp + 15 < recursionLimit) (hu : un + 100 < cLine)
    (hret : ∀ (h9 : Heap) (tk9 : Nat) (e dx t : Addr) (od : Obj) (mA : Str → Option Value), Fr h₀ L h9 m → News h₀ L h9 ((e, eO (lsF t) (some dx)) :: (dx, od) :: (t, tupO [v1, v2]) :: news) → LCg.NsObj od mA → mA (Str.ofString "symbol") = some v1 → (∀ p ∈ news, p.1 ≠ e ∧ p.1 ≠ dx ∧ p.1 ≠ t) → (dx ≠ e ∧ dx ≠ t) → Q (.ref e) { s with heap := h9, toks := tk9 }) :
    wpAny (model PySem.Challenge.rw_np0057_01.row.prog w) (ktrTop dp un gd cn cs L a ccd cl outer) (call (.ref 38) [v1, v2]) Q E s := by
  refine ex15 (ls_of (X.keeps F.keep) (ls_in w.params)) ?_
  intro nm q N0 bs sn sub ab col dd k0 k1 k2 k3 k5 mN C
  obtain ⟨oI, hI1, hI2⟩ := fn_at (X.keeps F.keep) (fn_ty w.params)
  obtain ⟨hp, g, d, t, os⟩ := s
  refine wpAny_call_exc_init PySem.F.excBase_Exception C.1 C.2.1 C.2.2.1 hI1 hI2 (fun h' e hm => ?_)
  obtain ⟨t9, ht1, ht2, ht3⟩ := hm.there
  have F' : Fr h₀ L h' m := F.keeps hm.keeps
  have fresh : ∀ b, hp.get? b = none → h₀.get? b = none := fun b hb => by
    cases hq : h₀.get? b with
    | none => rfl
    | some o' => have := F.keep b o' hq; rw [hb] at this; cases this
  have hge := hm.new
  have neL : ∀ b, hp.get? b = none → b ≠ L := fun b hb z => by
    obtain ⟨oL, _, _, hL, _⟩ := F.ns
    rw [z, hL] at hb
    cases hb
  have hne : t9 ≠ e := fun z => by rw [z, ht1] at ht3; cases ht3
  have old : ∀ p ∈ news, p.1 ≠ e ∧ p.1 ≠ t9 := fun p hp => ⟨fun z => (by have := (N p hp).1; rw [z, hge] at this; cases this), fun z => (by have := (N p hp).1; rw [z, ht2] at this; cases this)⟩
  have N' : News h₀ L h' ((e, eO (lsF t9) none) :: (t9, tupO [v1, v2]) :: news) := fun p hp => by
    rcases List.mem_cons.mp hp with rfl | hp
    · exact ⟨ht1, neL _ hge, fresh _ hge⟩
    · rcases List.mem_cons.mp hp with rfl | hp
      · exact ⟨ht3, neL _ ht2, fresh _ ht2⟩
      · exact ⟨hm.keeps _ _ (N p hp).1, (N p hp).2⟩
  refine ls_init_c (news := (e, eO (lsF t9) none) :: (t9, tupO [v1, v2]) :: news) (fs := lsF t9) (rest := (t9, tupO [v1, v2]) :: news) B F' X N' T hk ?hd ?hu rfl (List.forall_mem_cons.mpr ⟨hne, fun p hp => (old p hp).1⟩) (fun h9 tk9 dx od mA F9 N9 hN hs1 hd1 hd2 => ⟨rfl, hret h9 tk9 e dx t9 od mA F9 N9 hN hs1 (fun p hp => ⟨(old p hp).1, Nat.ne_of_lt (hd2 p (.tail _ hp)), (old p hp).2⟩) ⟨hd1, Nat.ne_of_gt (hd2 (t9, tupO [v1, v2]) (.head _))⟩⟩)
  case hd =>
    have e1 : (Code.builtin "type.__call__" { pos := [Value.ref 38, v1, v2] }).weight = 1 := rfl
    dsimp only [ktrTop]
    omega
  case hu =>
    have e1 : (Code.builtin "type.__call__" { pos := [Value.ref 38, v1, v2] }).cUnits = 1 := by first | rfl | simp [Code.cUnits, Code.frames, Code.isFrame]
    dsimp only [ktrTop]
    omega


end PartExc3
section PartExc4

section
variable {prog : Program} {w : World} {A : Around} {E : Value → Shared → Prop} {env : Env}
variable {nm q : Str} {N : Addr} {bs : List Value} {sn : List Str} {sub : List Value} {ab : Bool} {col : Option Bool} {dd : Option Addr} {k0 k1 k2 k3 k5 : Option Value} {mN : Str → Option Value}
/-- a LispSignal that was just made -/
def LsRaise (K : Frag) (E : Value → Shared → Prop) (v : Value) (s₁ : Shared) : Prop := ∃ e t dx, v = .ref e ∧ K.In s₁.heap ∧ s₁.heap.get? e = some (eO (lsF t) (some dx)) ∧ E (.ref e) s₁
theorem raise_ls_stmt {M : Model} {K : Frag} {s : Shared} {x : Sem Value} {Q : Flow → Shared → Prop} (hk : lsIn K = true) (hh : A.handled = none) (h : wpAny M A x (LsRaise K E) E s) : wpAny M A (raiseStmt env (some x) none) Q E s := by
  unfold raiseStmt
  refine wpAny_bind (wpAny_mono h (fun v s₁ h₁ => ?_) fun _ _ x => x)
  obtain ⟨e, t, dx, rfl, X, he, hE⟩ := h₁
  refine ex15 (ls_of X hk) ?_
  intro nm q N bs sn sub ab col dd k0 k1 k2 k3 k5 mN C
  have hC := C.1
  have hcB : (Value.ref 38 :: [Value.type "Exception", .type "BaseException", .type "object"]).contains (.type "BaseException") = true := by decide
  obtain ⟨hp, g, d, tk, os⟩ := s₁
  repeat (first | with_reducible refine wpAny_loadPart_at he ?_ | with_reducible refine wpAny_loadPart_at hC ?_ | (with_reducible refine wpAny_isSubtype_exc hC ?_; rw [hcB]) | wp_step)
  exact wpAny_raiseNew_none hh hE
theorem raise_ls {K : Frag} {s : Shared} {callx : PySem.Expr} {pos : Pos} {Q : Flow → Shared → Prop} (hk : lsIn K = true) (hh : A.handled = none) (h : wpAny (model prog w) A (eval callx env) (LsRaise K E) E s) :
    wpAny (model prog w) A (exec (.Raise (some callx) none pos) env) Q E s := by
  rw [arm_exec_Raise]
  first
    | exact wpAny_bind (wpAny_standAt (raise_ls_stmt hk hh h))
    | (simp only [evalOpt, Option.map]; exact wpAny_bind (wpAny_standAt (raise_ls_stmt hk hh (wpAny_bind (wpAny_mono h (fun v s₃ h₃ => wpAny_bind (wpAny_standAt (wpAny_pure h₃))) fun _ _ x => x)))))
theorem raise_ls2 {P : Params} {g : Heap} {s : Shared} {callx : PySem.Expr} {pos : Pos} {Q : Flow → Shared → Prop} (xU : (Mine.hd.heap_39 P).In g) (hh : A.handled = none) (h : wpAny (model prog w) A (eval callx env) (LsRaise (Mine.hd.heap_39 P) E) E s) :
    wpAny (model prog w) A (exec (.Raise (some callx) none pos) env) Q E s := raise_ls (ls_in P) hh h
end

section
variable {M : Model} {A : Around} {E : Value → Shared → Prop} {s' : Shared} {base g g₂ h : Heap} {outer : List Env} {L a e t dx : Addr} {m : Str → Option Value} {name : Str} {scope : Scope} {cd : Value} {Q : Unit → Shared → Prop} {news : List (Addr × Obj)} {vs : List Value}
def RaisedD (base : Heap) (l : List Env) (e t dx : Addr) (vs : List Value) (news : List (Addr × Obj)) (h : Heap) : Prop := RaisedK base l e (.ref 38) t vs news h ∧ DK e (some dx) h
theorem leave_ls (K : Below A base outer g) (F : Fr g L s'.heap m) (N : News g L s'.heap news) (he : s'.heap.get? e = some (eO (lsF t) (some dx))) (ht : s'.heap.get? t = some (tupO vs)) (hge : g.get? e = none) (hgt : g.get? t = none)
    (hne : ∀ p ∈ news, p.1 ≠ e ∧ p.1 ≠ t) (hQ : ∀ h', RaisedD base outer e t dx vs news h' → g.UpToSlots h' → Q () { s' with heap := h' }) (hk : scope.kind = .function := by rfl) :
    wpAny M (A.deeper (envOf name scope L a cd)) (leaving (envOf name scope L a cd) (.ref e)) Q E s' := by
  have K' := K.push (name := name) (a := a) (cd := cd) F hk
  let as := (envOf name scope L a cd :: outer).filterMap (·.frame) ++ [e, t]
  have hin : ∀ env ∈ (envOf name scope L a cd :: outer), ∀ b, env.frame = some b → b ∈ as := fun env he b hb => List.mem_append_left _ (List.mem_filterMap.mpr ⟨env, he, hb⟩)
  have st : base.StaysIn (hideAll s'.heap as) := fun b o q => hideAll_get _ (K'.stays b o q) fun hm => by
    rcases List.mem_append.mp hm with hm | hm
    · rw [(K'.frames.mem hm).1] at q; cases q
    · rcases List.mem_cons.mp hm with rfl | hm
      · rw [fresh_of_stays K.stays hge] at q; cases q
      · rw [List.mem_singleton.mp hm, fresh_of_stays K.stays hgt] at q; cases q
  have hl : ∀ q ∈ news, (hideAll s'.heap as).get? q.1 = some q.2 ∧ base.get? q.1 = none := fun q hq => by
    refine ⟨hideAll_get _ (N q hq).1 fun hm => ?_, fresh_of_stays K.stays (N q hq).2.2⟩
    rcases List.mem_append.mp hm with hm | hm
    · obtain ⟨env, he, hf⟩ := List.mem_filterMap.mp hm
      rcases List.mem_cons.mp he with rfl | he
      · exact (N q hq).2.1 (Option.some.inj hf).symm
      · obtain ⟨o, ho, _⟩ := (K.frames.mem (List.mem_filterMap.mpr ⟨env, he, hf⟩)).2
        rw [(N q hq).2.2] at ho; cases ho
    · rcases List.mem_cons.mp hm with z | hm
      · exact (hne q hq).1 z
      · exact (hne q hq).2 (List.mem_singleton.mp hm)
  have hBe : (hideAll s'.heap as).get? e = none := hideAll_none _ (List.mem_append_right _ (.head _))
  have hBt : (hideAll s'.heap as).get? t = none := hideAll_none _ (List.mem_append_right _ (.tail _ (.head _)))
  have W := wpAny_leaving_firstW (M := M) (E := E) (Q := fun _ s'' => ∃ h', Heap.LeftW (hideAll s'.heap as) (envOf name scope L a cd :: outer) e (.ref 38) (.ref t) s'.heap h' ∧ s'' = { s' with heap := h' })
    K'.stack (funFrames_hide K'.frames hin) rfl he (fun b o q => of_hideAll _ q) hBe rfl (a0 := .ref t) rfl rfl (fun h' hL => ⟨h', hL, rfl⟩)
  refine wpAny_mono (gentle_any g_leaving W ⟨_, he, rfl⟩) (fun _ s'' q => ?_) fun _ _ z => z.1
  obtain ⟨⟨h', hL, rfl⟩, hd⟩ := q
  obtain ⟨k1, ⟨_, _, k2⟩, k3, k4⟩ := hL
  exact hQ h' ⟨⟨⟨_, st, hl, ⟨k1, hBe, k2, k3⟩, hBt⟩, Heap.TupAt.of_slots ⟨_, _, ht, rfl, rfl⟩ k4⟩, hd⟩ ((Heap.UpToSlots.of_keeps F.keep).trans k4)
end

section
variable {M : Model} {A : Around} {E : Value → Shared → Prop} {s : Shared} {base : Heap} {env : Env} {outer : List Env} {L e : Addr} {cls a0 : Value} {l : List Env} {dd : Option Addr} {Q : Unit → Shared → Prop}
theorem look_d (hfr : A.frames = some (env :: outer)) (hf : env.frame = some L) (hfl : Heap.FlyingW base (env :: outer) e cls a0 s.heap) (d : DK e dd s.heap)
    (hQ : ∀ h', Heap.HeldW base (env :: outer) e cls a0 L h' → s.heap.UpToSlots h' → DK e dd h' → Q () { s with heap := h' }) : wpAny M A (noteFrame (.ref e) env) Q E s := by
  have W := wpAny_looks_onW (M := M) (E := E) (Q := fun _ s'' => ∃ h', Heap.HeldW base (env :: outer) e cls a0 L h' ∧ s.heap.UpToSlots h' ∧ s'' = { s with heap := h' }) hfr hf hfl (fun h' a b => ⟨h', a, b, rfl⟩)
  refine wpAny_mono (gentle_any g_noteFrame W d) (fun _ s'' q => ?_) fun _ _ z => z.1
  obtain ⟨⟨h', a, b, rfl⟩, d'⟩ := q
  exact hQ h' a b d'
theorem lands_d (hh : Heap.HeldW base l e cls a0 L s.heap) (d : DK e dd s.heap) (hQ : ∀ h', Heap.FlyingW base l e cls a0 h' → s.heap.UpToSlots h' → DK e dd h' → Q () { s with heap := h' }) : wpAny M A (setFlight (.ref e) none) Q E s := by
  have W := wpAny_landsW (M := M) (A := A) (E := E) (Q := fun _ s'' => ∃ h', Heap.FlyingW base l e cls a0 h' ∧ s.heap.UpToSlots h' ∧ s'' = { s with heap := h' }) hh (fun h' a b => ⟨h', a, b, rfl⟩)
  refine wpAny_mono (gentle_any g_setFlight W d) (fun _ s'' q => ?_) fun _ _ z => z.1
  obtain ⟨⟨h', a, b, rfl⟩, d'⟩ := q
  exact hQ h' a b d'
theorem again_d (hh : Heap.FlyingW base l e cls a0 s.heap) (d : DK e dd s.heap) (hQ : ∀ h', Heap.FlyingW base l e cls a0 h' → s.heap.UpToSlots h' → DK e dd h' → Q () { s with heap := h' }) : wpAny M A (setFlight (.ref e) none) Q E s := by
  have W := lands_againW (M := M) (A := A) (E := E) (Q := fun _ s'' => ∃ h', Heap.FlyingW base l e cls a0 h' ∧ s.heap.UpToSlots h' ∧ s'' = { s with heap := h' }) hh (fun h' a b => ⟨h', a, b, rfl⟩)
  refine wpAny_mono (gentle_any g_setFlight W d) (fun _ s'' q => ?_) fun _ _ z => z.1
  obtain ⟨⟨h', a, b, rfl⟩, d'⟩ := q
  exact hQ h' a b d'
end
section
variable {prog : Program} {w : World} {A₀ : Around} {E : Value → Shared → Prop} {s' : Shared} {h₀ h : Heap} {outer : List Env} {L a e t dx : Addr} {m : Str → Option Value} {name : Str} {scope : Scope} {cd : Value}
  {vs : List Value} {n : Str} {b₀ : Stmt} {suite : List Stmt} {pos np : Pos} {rest : List ExceptHandler} {Q : Flow → Shared → Prop} {news : List (Addr × Obj)} {KF : Frag} {p : Program} {loose : List Str} {mg mb : Str → Option Value} {x : Str}
theorem caught_ls (K : Below A₀ h₀ outer h₀) (F : Fr h₀ L h m) (hsm : h.UpToSlots s'.heap) (R : RaisedD h₀ (envOf name scope L a cd :: outer) e t dx vs news s'.heap)
    (X : KF.In h₀) (T : TopRead p loose mg mb h₀) (ex : nsIn KF mainGlobals x = some (some (.ref 38))) (hls : lsIn KF = true)
    (k : ∀ h' tk oe ws, Fr h₀ L h' (fun y => if y = n then some (.ref e) else m y) → News h₀ L h' ((e, oe) :: news) → oe.cls = .ref 38 → oe.data = .fields ws → oe.dict = some dx →
      wpAny (model prog w) ((A₀.deeper (envOf name scope L a cd)).mark (some (.ref e))) (execs (b₀ :: suite) (envOf name scope L a cd))
        (fun f s₄ => wpAny (model prog w) (A₀.deeper (envOf name scope L a cd)) (do bindName (envOf name scope L a cd) n .none; unbindBehindTheSuite (envOf name scope L a cd) n pos) (fun _ s₅ => Q f s₅) E s₄)
        (AsSuiteRaised (model prog w) ((A₀.deeper (envOf name scope L a cd)).mark (some (.ref e))) (envOf name scope L a cd) n pos (notedBy (model prog w) ((A₀.deeper (envOf name scope L a cd)).mark (some (.ref e))) (envOf name scope L a cd) (cameBackBy (model prog w) (A₀.deeper (envOf name scope L a cd)) (envOf name scope L a cd) E)))
        { s' with heap := h', toks := tk })
    (hk : scope.kind = .function := by rfl) (hlo : (envOf name scope L a cd).kindOf n = some .local := by rfl) (hx : (envOf name scope L a cd).kindOf x = some .globalImplicit := by rfl) (hd : (x == ("__debug__" : Str)) = false := by decide) :
    wpAny (model prog w) (A₀.deeper (envOf name scope L a cd)) (noteFrame (.ref e) (envOf name scope L a cd))
      (fun _ s₂ => wpAny (model prog w) (A₀.deeper (envOf name scope L a cd)) (setFlight (.ref e) none) (fun _ s₃ =>
        wpAny (model prog w) (A₀.deeper (envOf name scope L a cd)) (handleBy (.ref e) (envOf name scope L a cd) (.ExceptHandler (some (.Name x np)) (some n) (b₀ :: suite) pos :: rest)) Q E s₃) E s₂) E s' := by
  obtain ⟨⟨⟨B, hB, hl, hfl, hnew⟩, htup⟩, hdk⟩ := R
  have hL : B.get? L = none := by
    obtain ⟨_, ⟨L', _, hf, hn', _⟩, _⟩ := hfl.2.2.1
    obtain rfl : L = L' := Option.some.inj hf
    exact hn'
  refine look_d (Around.frames_deeper K.stack) rfl hfl hdk fun h₄ hheld₄ hsm₄ hd₄ => ?_
  refine lands_d hheld₄ hd₄ fun h₅ hheld hsm₅' hd₅ => ?_
  have hsm₅ := hsm₄.trans hsm₅'
  have hheld' := flyingW_base hB hheld
  have F₅ := F.of_stays hheld'.1 (hsm.trans hsm₅)
  obtain ⟨ob, hob, hobc⟩ := hheld'.there
  refine wpAny_handleBy_cons (codeAny_handlers_test (name_K F₅ X T ex ?_ hk hx hd)) (by intro q; cases q)
  refine ex15 (ls_of (X.keeps F₅.keep) hls) ?_
  intro nm q N bs sn sub ab col dd k0 k1 k2 k3 k5 mN C
  refine wpAny_excMatches_sub_self C.1 hob hobc (by decide) (codeAny_handlers_suite_as ?_)
  refine again_d hheld hd₅ fun h₆ hfl₆ hsm₆ hd₆ => ?_
  have hfl₆' := flyingW_base hB hfl₆
  have F₆ := F.of_stays hfl₆'.1 ((hsm.trans hsm₅).trans hsm₆)
  obtain ⟨oe, ws, hoe, hoec, hoed, hoe0⟩ := hfl₆'.first
  obtain ⟨oe', hoe', hdd⟩ := hd₆
  obtain rfl : oe = oe' := Option.some.inj (hoe.symm.trans hoe')
  have N₆ := News.more F₆ News.nil hoe (fun es n q => by rw [hoed] at q; cases q) hfl₆'.2.1
  have Nl : News h₀ L h₆ news := fun q hq => ⟨hfl₆.1 _ _ (hl q hq).1, (fun z => by have := (hl q hq).1; rw [z, hL] at this; cases this), (hl q hq).2⟩
  refine stN F₆ (news := (e, oe) :: news) (fun q hq => ?_) (fun h₇ F₇ N₇ => ?_) hk hlo
  · rcases List.mem_cons.mp hq with rfl | hq
    · exact N₆ _ (.head _)
    · exact Nl _ hq
  · exact k h₇ _ oe ws F₇ N₇ hoec hoed hdd
end


end PartExc4
section PartD8
theorem words_7 : True := by
  k_with "call ref" => ((with_reducible show wpAny _ _ (call (Value.ref 239) _) _ _ _); k_dflt (refine' movable_c ?wB ?wF ?wX ?wN ?wT ?whk ?whd ?whu ?wS ?whW ?whax ?_; (case wB => k_asm); (case wF => k_asm); (case wX => k_asm); (case wN => k_asm); (case wT => k_asm); (case whk => first | exact rfl | assumption); (case whd => ktr_room); (case whu => ktr_units); (case wS => walk_at "tin"); (case whW => assumption); (case whax => assumption); k_whole); intro _ _ _ _; (try k_sweep))
  k_with "call ref" => ((with_reducible show wpAny _ _ (call (Value.ref 251) _) _ _ _); k_dflt (refine' can_give_c ?wB ?wF ?wX ?wN ?wT ?whk ?whd ?whu ?wS ?_; (case wB => k_asm); (case wF => k_asm); (case wX => k_asm); (case wN => k_asm); (case wT => k_asm); (case whk => first | exact rfl | assumption); (case whd => ktr_room); (case whu => ktr_units); (case wS => walk_at "tin"); k_whole); intro _ _ _ _ _; (try k_sweep))
  k_with "call ref" => ((with_reducible show wpAny _ _ (call (Value.ref 225) _) _ _ _); k_dflt (refine' set_tree_size_c ?wB ?wF ?wX ?wN ?wT ?whk ?whd ?whu ?wht ?whv ?whw ?whs ?wU ?_; (case wB => k_asm); (case wF => k_asm); (case wX => k_asm); (case wN => k_asm); (case wT => k_asm); (case whk => first | exact rfl | assumption); (case whd => ktr_room); (case whu => ktr_units); (case wht => walk_at "tin"); (case whv => k_asm); (case whw => walk_at "tin"); (case whs => assumption); (case wU => walk_at "upd"); k_whole); intro _ _ _ _; (try k_sweep))
  k_with "call ref" => ((with_reducible show wpAny _ _ (call (Value.ref 38) _) _ _ _); k_dflt (refine' ls_c ?wB ?wF ?wX ?wN ?wT ?whk ?whd ?whu  ?_; (case wB => k_asm); (case wF => k_asm); (case wX => k_asm); (case wN => k_asm); (case wT => k_asm); (case whk => first | exact rfl | assumption); (case whd => ktr_room); (case whu => ktr_units);  k_whole); intro _ _ _ _ _ _ _ _ _ _ _ _ _; (try k_sweep))
  k_with "exec Raise some none" => (k_dflt (refine raise_ls2 (by k_asm) (by rfl) ?_))
  trivial

set_option maxRecDepth 100000 in
set_option maxHeartbeats 8000000 in
theorem resize_c {w : World} {p : Program} {loose : List Str} {mean : ExcName → Option Value} {mg mb : Str → Option Value} {dp un : Nat} {gd : Option (List Code)} {cn : Str} {cs : Scope} {a : Addr} {ccd : Value} {cl : List (Str × Addr)} {outer : List Env} {A₀ : Around} {base h₀ : Heap} {L : Addr} {m : Str → Option Value} {news : List (Addr × Obj)} {s : Shared} {Q E : Value → Shared → Prop} {V : Tre} {R W : Win} {a9 b9 : List Kid} {bs : List (Addr × Obj)} {tk tk2 tk3 t0 : Tok} {ax dl : Int}
    (B : Below A₀ base outer h₀) (F : Fr h₀ L s.heap m) (X : (Mine.hd.heap_39 w.params).In h₀) (N : News h₀ L s.heap news) (T : Top p loose mean mg mb h₀) (hk : cs.kind = .function) (hd : dp + 60 < recursionLimit) (hu : un + 600 < cLine)
    (Bs : Ba w bs V R (a9 ++ (W, t0) :: b9)) (hn : news = led w.params R (a9 ++ (W, t0) :: b9) bs) (hax : (if R.sort = 2 then (0 : Int) else 1) = ax)
    (hraise : (((b9 ++ a9.reverse).map fun k => k.1.size ax - V.least ax).sum < dl ∨ W.size ax + dl < V.least ax) → ∀ (h9 g9 : Heap) (tk9 : Nat) (e t dx : Addr) (od : Obj) (mA : Str → Option Value) (vs : List Value) (ts : Tok), Fr h₀ L g9 m → g9.UpToSlots h9 → RaisedD base (envX cn cs L a ccd cl :: outer) e t dx vs ((dx, od) :: news) h9 → LCg.NsObj od mA → mA (Str.ofString "symbol") = some (.str (Str.ofString "error") ts) → E (.ref e) { s with heap := h9, toks := tk9 })
    (hret : ¬ (((b9 ++ a9.reverse).map fun k => k.1.size ax - V.least ax).sum < dl ∨ W.size ax + dl < V.least ax) → ∀ (h9 : Heap) (tk9 : Nat) (R' : Win) (kids' : List Kid), Fr h₀ L h9 m → News h₀ L h9 (led w.params R' kids' bs) → Same R R' → Kin (a9 ++ (W, t0) :: b9) kids' → kids'.map (·.1.size ax) = (giveL (V.least ax) dl (idxs a9.length b9.length) ((a9 ++ (W, t0) :: b9).map (·.1.size ax))).set a9.length (W.size ax + dl) → PlK ax 0 kids' → Q .none { s with heap := h9, toks := tk9 }) :
    wpAny (model PySem.Challenge.rw_np0057_01.row.prog w) (ktrTop dp un gd cn cs L a ccd cl outer) (call (.ref 258) [.ref V.x, .int W.num tk, .int ax tk2, .int dl tk3]) Q E s := by
  refine wpAny_call ?_
  k_dflt (refine' code_def (binds := [(Str.ofString "tree", .ref V.x), (Str.ofString "number", .int W.num tk), (Str.ofString "axis", .int ax tk2), (Str.ofString "delta", .int dl tk3)]) ?k1 ?k2 ?k3 ?k4 ?k5 ?kA ?kF ?kK ?k6 ?k7 ?k8 ?k9 ?kB ?_ ?c2 ?c3 ?c4 ?c5; (case kA => exact rfl); (case kF => exact rfl); (case kK => assumption); (case k1 => exact B); (case k2 => exact F); (case k3 => exact X); (case k4 => exact N); (case k5 => exact T); (case k6 => k_is); (case k7 => k_is); (case k8 => ktr_room); (case k9 => exact BindsTo.of_eq rfl); (case c5 => decide); (case kB => exact locs rfl); (case c2 => exact rfl); (case c3 => exact rfl); (case c4 => exact rfl); k_whole; intro g' L' h' FG' F' N' B' X' T'; (try dsimp only [List.length_cons, List.length_nil]); (try k_fold))
  subst hn
  have S := Bs.st
  generalize hnews : led w.params R (a9 ++ (W, t0) :: b9) bs = news at *
  have hW : (W, t0) ∈ a9 ++ (W, t0) :: b9 := by simp
  have ht0 := S.tre
  obtain ⟨ht1, ht2, ht3, ht4, ht5⟩ := S.tre
  obtain ⟨⟨hw1, hw2⟩, hv, hs, ⟨cw, hc⟩⟩ := S.leaf _ hW
  have hw0 : WinIn w.params news W := ⟨hw1, hw2⟩
  have hnz : ¬ W.num = 0 := S.nz _ hW
  by_cases hg : ((b9 ++ a9.reverse).map fun k => k.1.size ax - V.least ax).sum < dl
  · repeat' (first | (k_unfold; (try dsimp only)) | ((fail_if_success (with_reducible show wpAny _ _ (exec (Stmt.While _ _ _ _) _) _ _ _)); (fail_if_success (with_reducible show WhlRest _ _ _ _ _ _ _ _ _ _ _)); (fail_if_success (with_reducible show WStep _ _ _ _ _ _)); first | walk1 | (dsimp only; walk1)))
    rename_i e9 dx9 t9 od9 mA9 F9 N9 hO9 hs9 hd9 he9
    refine ⟨e9, t9, dx9, rfl, X'.keeps F9.keep, (N9 _ (.head _)).1, ?_⟩
    refine leave_ls (t := t9) (dx := dx9) (news := (dx9, od9) :: news) B' F9 (cb_drop N9 (List.forall_mem_cons.mpr ⟨by k_mem, fun p hp => by k_mem⟩)) (N9 _ (.head _)).1 (N9 _ (.tail _ (.tail _ (.head _)))).1 (N9 _ (.head _)).2.2 (N9 _ (.tail _ (.tail _ (.head _)))).2.2
      (List.forall_mem_cons.mpr ⟨he9, fun p hp => ⟨(hd9 p (.tail _ hp)).1, (hd9 p (.tail _ hp)).2.2⟩⟩) (fun h' R' U' => ?_)
    exact hraise (.inl hg) _ _ _ _ _ _ _ _ _ _ FG' U' R' hO9 hs9
  · by_cases hs2 : W.size ax + dl < V.least ax
    · repeat' (first | (k_unfold; (try dsimp only)) | ((fail_if_success (with_reducible show wpAny _ _ (exec (Stmt.While _ _ _ _) _) _ _ _)); (fail_if_success (with_reducible show WhlRest _ _ _ _ _ _ _ _ _ _ _)); (fail_if_success (with_reducible show WStep _ _ _ _ _ _)); first | walk1 | (dsimp only; walk1)))
      rename_i e9 dx9 t9 od9 mA9 F9 N9 hO9 hs9 hd9 he9
      refine ⟨e9, t9, dx9, rfl, X'.keeps F9.keep, (N9 _ (.head _)).1, ?_⟩
      refine leave_ls (t := t9) (dx := dx9) (news := (dx9, od9) :: news) B' F9 (cb_drop N9 (List.forall_mem_cons.mpr ⟨by k_mem, fun p hp => by k_mem⟩)) (N9 _ (.head _)).1 (N9 _ (.tail _ (.tail _ (.head _)))).1 (N9 _ (.head _)).2.2 (N9 _ (.tail _ (.tail _ (.head _)))).2.2
        (List.forall_mem_cons.mpr ⟨he9, fun p hp => ⟨(hd9 p (.tail _ hp)).1, (hd9 p (.tail _ hp)).2.2⟩⟩) (fun h' R' U' => ?_)
      exact hraise (.inr hs2) _ _ _ _ _ _ _ _ _ _ FG' U' R' hO9 hs9
    · repeat' (first | (k_unfold; (try dsimp only)) | ((fail_if_success (with_reducible show wpAny _ _ (exec (Stmt.While _ _ _ _) _) _ _ _)); (fail_if_success (with_reducible show WhlRest _ _ _ _ _ _ _ _ _ _ _)); (fail_if_success (with_reducible show WStep _ _ _ _ _ _)); first | walk1 | (dsimp only; walk1)))
      rename News _ _ _ _ => N1
      rename Fr _ _ _ _ => F1
      rename_i lg n9 _ _ l1g I lI
      obtain ⟨K9, hK9⟩ : ∃ k, k = a9 ++ (W, t0) :: b9 := ⟨_, rfl⟩
      have hidx : (b9 ++ a9.reverse).map kv = (idxs a9.length b9.length).map (fun i => kv (K9.getD i (W, t0))) := by
        rw [hK9, ← idxs_get (x := (W, t0)) (d := (W, t0)), List.map_map]
        rfl
      obtain ⟨hb1, hb2, hb3, hb4, hb5⟩ := Bs.tre
      have htb := Bs.tre
      rw [← hK9] at hret Bs hnews
      have hat0 : K9[a9.length]? = some (W, t0) := by rw [hK9]; simp
      have hKl : K9.length = a9.length + 1 + b9.length := by rw [hK9]; simp; omega
      refine lst_ind (fun vs m' nw' => ∃ (is : List Nat) (lc : Int) (tlc : Tok) (kc : List Kid), vs = is.map (fun i => kv (K9.getD i (W, t0))) ∧ (∀ i ∈ is, i < K9.length ∧ i ≠ a9.length) ∧ Kin K9 kc ∧ kc[a9.length]? = some (W, t0) ∧
          giveL (V.least ax) lc is (kc.map (·.1.size ax)) = giveL (V.least ax) dl (idxs a9.length b9.length) (K9.map (·.1.size ax)) ∧
          m' (Str.ofString "tree") = some (.ref V.x) ∧ m' (Str.ofString "axis") = some (.int ax tk2) ∧ m' (Str.ofString "own") = some (.int W.num W.tn) ∧ m' (Str.ofString "here") = some (.ref W.x) ∧ m' (Str.ofString "delta") = some (.int dl tk3) ∧ m' (Str.ofString "left") = some (.int lc tlc) ∧
          ∀ p ∈ (lg, listOf (List.map kv (b9 ++ a9.reverse)).toArray n9) :: led w.params R kc bs, p ∈ nw')
        ⟨idxs a9.length b9.length, dl, tk3, K9, hidx, (fun i hi => ⟨by have := idxs_lt hi; omega, (idxs_lt hi).2⟩), Kin.refl, hat0, rfl, rfl, rfl, rfl, rfl, rfl, rfl, ?h0⟩ ?turn ?done
      case h0 => rw [hnews]; exact fun p hp => hp
      case turn =>
        intro v r m' nw' hX9 it h tk hc9 F2 N2
        refine ex4 hX9 ?_
        clear hX9
        intro is lc tlc kc hX9
        refine an12 hX9 ?_
        clear hX9
        intro hv9 his hkin hat hgl m1 m2 m3 m4 m5 m6 hin
        cases is with
        | nil => cases hv9
        | cons i is =>
          obtain ⟨rfl, rfl⟩ := List.cons.inj hv9
          obtain ⟨hil, hia⟩ := his i (.head _)
          obtain ⟨a', ⟨Wc, tc⟩, b', hkc, hal, hget⟩ := split_at (l := kc) (i := i) (by rw [hkin.length]; exact hil)
          have N3 : News g' L' h ((I, it) :: (lg, listOf (List.map kv (b9 ++ a9.reverse)).toArray n9) :: led w.params R kc bs) := cb_drop N2 (List.forall_mem_cons.mpr ⟨.head _, fun p hp => .tail _ (hin p hp)⟩)
          have F3 : Fr g' L' h (fun y => if y = Str.ofString "other" then some (kv (K9.getD i (W, t0))) else m' y) := F2
          clear N2 F2 N1 F1
          rw [hkin.at hget (W, t0)] at F3
          have hB : Ba w bs V R (a' ++ (Wc, tc) :: b') := hkc ▸ (Bs.move .refl hkin)
          refine ex1 hB.fK ?_
          intro nK hX9
          refine an5 hX9 ?_
          clear hX9
          intro ksub kmem kupd kled kR
          have hkeyG : ∀ kc, Kin K9 kc → ∀ p ∈ led w.params R kc bs, p.1 < lg ∧ p.1 < I := fun kc hkin p hp => by
            obtain ⟨q, hq, e⟩ := key_mem (led_keys .refl hkin) hp
            rw [hnews] at hq
            rw [← e]
            exact ⟨l1g q hq, ktn_ltOf lI.2 q hq⟩
          have hdW := hkeyG kc hkin (de w.params Wc) (by rw [hkc]; exact led_kid (p := (Wc, tc)) (by simp))
          have hlgd : lg ≠ Wc.d := Nat.ne_of_gt hdW.1
          have hId : I ≠ Wc.d := Nat.ne_of_gt hdW.2
          rw [hkc, ← kled Wc rfl] at N3
          obtain ⟨c1, c2, c3, c4, cc, c5⟩ := hB.kx (Wc, tc) (by simp)
          have hmW : WinIn w.params (nK Wc) Wc := ⟨ksub.mem c1, kmem.mem⟩
          dsimp only at c2 c3
          by_cases hl9 : lc > 0
          · repeat' (first | (k_unfold; (try dsimp only)) | ((fail_if_success (with_reducible show wpAny _ _ (exec (Stmt.While _ _ _ _) _) _ _ _)); (fail_if_success (with_reducible show WhlRest _ _ _ _ _ _ _ _ _ _ _)); (fail_if_success (with_reducible show WStep _ _ _ _ _ _)); first | walk1 | (dsimp only; walk1)))
            rename News _ _ _ _ => N4
            rename Fr _ _ _ _ => F4
            rw [kled _ Same.setSize.d] at N4
            have hk2 := hkin
            rw [hkc] at hk2
            refine LStep.next ((lg, listOf (List.map kv (b9 ++ a9.reverse)).toArray n9) :: led w.params R (a' ++ (Wc.setSize ax (Wc.size ax - (if Wc.size ax - V.least ax < lc then Wc.size ax - V.least ax else lc)) _, tc) :: b') bs) F4 N4 (fun p hp => hp) ?_ (.head _)
              ⟨is, lc - (if Wc.size ax - V.least ax < lc then Wc.size ax - V.least ax else lc), _, _, rfl, fun j hj => his j (.tail _ hj), hk2.trans (Kin.one Same.setSize), ?_, ?_, m1, m2, m3, m4, m5, rfl, fun p hp => hp⟩
            · refine List.forall_mem_cons.mpr ⟨Nat.ne_of_lt lI.1, fun p hp => Nat.ne_of_lt (hkeyG _ (hk2.trans (Kin.one Same.setSize)) p hp).2⟩
            · rw [set_mid_other (p := (Wc, tc)) (by omega), ← hkc]
              exact hat
            · rw [← hgl, hkc, sizes_set, ← hal]
              simp only [giveL, getD_mid, if_pos hl9]
          · repeat' (first | (k_unfold; (try dsimp only)) | ((fail_if_success (with_reducible show wpAny _ _ (exec (Stmt.While _ _ _ _) _) _ _ _)); (fail_if_success (with_reducible show WhlRest _ _ _ _ _ _ _ _ _ _ _)); (fail_if_success (with_reducible show WStep _ _ _ _ _ _)); first | walk1 | (dsimp only; walk1)))
            rename News _ _ _ _ => N4
            rename Fr _ _ _ _ => F4
            rw [kled _ Same.setSize.d] at N4
            have hk2 := hkin
            rw [hkc] at hk2
            refine LStep.next ((lg, listOf (List.map kv (b9 ++ a9.reverse)).toArray n9) :: led w.params R (a' ++ (Wc.setSize ax (Wc.size ax - (lc)) _, tc) :: b') bs) F4 N4 (fun p hp => hp) ?_ (.head _)
              ⟨is, lc - (lc), _, _, rfl, fun j hj => his j (.tail _ hj), hk2.trans (Kin.one Same.setSize), ?_, ?_, m1, m2, m3, m4, m5, rfl, fun p hp => hp⟩
            · refine List.forall_mem_cons.mpr ⟨Nat.ne_of_lt lI.1, fun p hp => Nat.ne_of_lt (hkeyG _ (hk2.trans (Kin.one Same.setSize)) p hp).2⟩
            · rw [set_mid_other (p := (Wc, tc)) (by omega), ← hkc]
              exact hat
            · rw [← hgl, hkc, sizes_set, ← hal]
              simp only [giveL, getD_mid, if_neg hl9]
      case done =>
        intro m' nw' h tk hX9 F2 N2
        refine ex4 hX9 ?_
        clear hX9
        intro is lc tlc kc hX9
        refine an12 hX9 ?_
        clear hX9
        intro hv9 his hkin hat hgl m1 m2 m3 m4 m5 m6 hin
        have his' : is = [] := List.map_eq_nil_iff.mp hv9.symm
        subst his'
        obtain ⟨a', ⟨W', t'⟩, b', hkc, hal, hget⟩ := split_at (l := kc) (i := a9.length) (by rw [hkin.length]; omega)
        rw [hat] at hget
        cases hget
        have N3 : News g' L' h (led w.params R kc bs) := cb_drop N2 (fun p hp => hin p (.tail _ hp))
        have F3 : Fr g' L' h _ := F2
        clear N2 F2 N1 F1
        have hB : Ba w bs V R (a' ++ (W, t0) :: b') := hkc ▸ (Bs.move .refl hkin)
        refine ex1 hB.fK ?_
        intro nK hX9
        refine an5 hX9 ?_
        clear hX9
        intro ksub kmem kupd kled kR
        rw [hkc, ← kled W rfl] at N3
        obtain ⟨c1, c2, c3, c4, cc, c5⟩ := hB.kx (W, t0) (by simp)
        have hmW : WinIn w.params (nK W) W := ⟨ksub.mem c1, kmem.mem⟩
        dsimp only at c2 c3
        repeat' (first | (k_unfold; (try dsimp only)) | ((fail_if_success (with_reducible show wpAny _ _ (exec (Stmt.While _ _ _ _) _) _ _ _)); (fail_if_success (with_reducible show WhlRest _ _ _ _ _ _ _ _ _ _ _)); (fail_if_success (with_reducible show WStep _ _ _ _ _ _)); first | walk1 | (dsimp only; walk1)))
        rename News _ _ _ _ => N4
        rename Fr _ _ _ _ => F4
        rw [kled _ Same.setSize.d] at N4
        have hk2 := hkin
        rw [hkc] at hk2
        refine' set_places_c ?B F4 ?X N4 ?T ?hk ?hd ?hu (hB.move .refl (Kin.one Same.setSize)) rfl hax ?_
        (case B => k_asm)
        (case X => k_asm)
        (case T => k_asm)
        (case hk => exact rfl)
        (case hd => ktr_room)
        (case hu => ktr_units)
        intro h9 tk9 R' kids' F9 N9 hs9 hk9 hz9 hp9
        repeat' (first | (k_unfold; (try dsimp only)) | ((fail_if_success (with_reducible show wpAny _ _ (exec (Stmt.While _ _ _ _) _) _ _ _)); (fail_if_success (with_reducible show WhlRest _ _ _ _ _ _ _ _ _ _ _)); (fail_if_success (with_reducible show WStep _ _ _ _ _ _)); first | walk1 | (dsimp only; walk1)))
        refine hret (fun z => z.elim hg hs2) _ _ R' kids' (by k_asm) (by k_asm) hs9 (hk2.trans ((Kin.one Same.setSize).trans hk9)) ?_ hp9
        rw [hz9 ax, sizes_set, ← hkc, hal]
        rw [← hgl]
        rfl



end PartD8
section PartD9

theorem much_ok {S dl least sz : Int} (h0 : 0 ≤ S) (h1 : least ≤ sz) : ¬ (S < (if (if S < dl then S else dl) < least - sz then least - sz else (if S < dl then S else dl)) ∨ sz + (if (if S < dl then S else dl) < least - sz then least - sz else (if S < dl then S else dl)) < least) := by
  by_cases h : S < dl
  · simp only [if_pos h]
    split <;> omega
  · simp only [if_neg h]
    split <;> omega
theorem giveL_zero {least : Int} : ∀ {l : List Nat} {f : List Int}, (∀ i ∈ l, i < f.length) → giveL least 0 l f = f
  | [], _, _ => rfl
  | i :: r, f, h => by
    have hi := h i (.head _)
    have e : f.set i (f.getD i 0 - 0) = f := by
      rw [Int.sub_zero, List.getD_eq_getElem?_getD, List.getElem?_eq_getElem hi, Option.getD_some]
      exact List.set_getElem_self hi
    unfold giveL
    simp only [if_neg (show ¬ ((0 : Int) > 0) by omega), Int.sub_zero]
    rw [Int.sub_zero] at e
    rw [e]
    exact giveL_zero fun j hj => h j (.tail _ hj)
set_option maxRecDepth 100000 in
set_option maxHeartbeats 8000000 in
theorem enlarge_c {w : World} {p : Program} {loose : List Str} {mean : ExcName → Option Value} {mg mb : Str → Option Value} {dp un : Nat} {gd : Option (List Code)} {cn : Str} {cs : Scope} {a : Addr} {ccd : Value} {cl : List (Str × Addr)} {outer : List Env} {A₀ : Around} {base h₀ : Heap} {L : Addr} {m : Str → Option Value} {news : List (Addr × Obj)} {s : Shared} {Q E : Value → Shared → Prop} {V : Tre} {R W : Win} {a9 b9 : List Kid} {bs : List (Addr × Obj)} {tk tk2 tk3 t0 : Tok} {ax dl : Int}
    (B : Below A₀ base outer h₀) (F : Fr h₀ L s.heap m) (X : (Mine.hd.heap_39 w.params).In h₀) (N : News h₀ L s.heap news) (T : Top p loose mean mg mb h₀) (hk : cs.kind = .function) (hd : dp + 100 < recursionLimit) (hu : un + 1000 < cLine)
    (Bs : Ba w bs V R (a9 ++ (W, t0) :: b9)) (hn : news = led w.params R (a9 ++ (W, t0) :: b9) bs) (hax : (if R.sort = 2 then (0 : Int) else 1) = ax) (hs0 : 0 ≤ ((b9 ++ a9.reverse).map fun k => k.1.size ax - V.least ax).sum) (hsz : V.least ax ≤ W.size ax) (hpl : PlK ax 0 (a9 ++ (W, t0) :: b9))
    (hret : ∀ (h9 : Heap) (tk9 : Nat) (R' : Win) (kids' : List Kid) (t9 : Tok), Fr h₀ L h9 m → News h₀ L h9 (led w.params R' kids' bs) → Same R R' → Kin (a9 ++ (W, t0) :: b9) kids' → kids'.map (·.1.size ax) = (giveL (V.least ax) (if (if (((b9 ++ a9.reverse).map fun k => k.1.size ax - V.least ax).sum) < dl then (((b9 ++ a9.reverse).map fun k => k.1.size ax - V.least ax).sum) else dl) < V.least ax - W.size ax then V.least ax - W.size ax else (if (((b9 ++ a9.reverse).map fun k => k.1.size ax - V.least ax).sum) < dl then (((b9 ++ a9.reverse).map fun k => k.1.size ax - V.least ax).sum) else dl)) (idxs a9.length b9.length) ((a9 ++ (W, t0) :: b9).map (·.1.size ax))).set a9.length (W.size ax + (if (if (((b9 ++ a9.reverse).map fun k => k.1.size ax - V.least ax).sum) < dl then (((b9 ++ a9.reverse).map fun k => k.1.size ax - V.least ax).sum) else dl) < V.least ax - W.size ax then V.least ax - W.size ax else (if (((b9 ++ a9.reverse).map fun k => k.1.size ax - V.least ax).sum) < dl then (((b9 ++ a9.reverse).map fun k => k.1.size ax - V.least ax).sum) else dl))) → PlK ax 0 kids' → Q (.int (if (if (((b9 ++ a9.reverse).map fun k => k.1.size ax - V.least ax).sum) < dl then (((b9 ++ a9.reverse).map fun k => k.1.size ax - V.least ax).sum) else dl) < V.least ax - W.size ax then V.least ax - W.size ax else (if (((b9 ++ a9.reverse).map fun k => k.1.size ax - V.least ax).sum) < dl then (((b9 ++ a9.reverse).map fun k => k.1.size ax - V.least ax).sum) else dl)) t9) { s with heap := h9, toks := tk9 }) :
    wpAny (model PySem.Challenge.rw_np0057_01.row.prog w) (ktrTop dp un gd cn cs L a ccd cl outer) (call (.ref 293) [.ref V.x, .int W.num tk, .int ax tk2, .int dl tk3]) Q E s := by
  refine wpAny_call ?_
  k_dflt (refine' code_def (binds := [(Str.ofString "tree", .ref V.x), (Str.ofString "number", .int W.num tk), (Str.ofString "axis", .int ax tk2), (Str.ofString "delta", .int dl tk3)]) ?k1 ?k2 ?k3 ?k4 ?k5 ?kA ?kF ?kK ?k6 ?k7 ?k8 ?k9 ?kB ?_ ?c2 ?c3 ?c4 ?c5; (case kA => exact rfl); (case kF => exact rfl); (case kK => assumption); (case k1 => exact B); (case k2 => exact F); (case k3 => exact X); (case k4 => exact N); (case k5 => exact T); (case k6 => k_is); (case k7 => k_is); (case k8 => ktr_room); (case k9 => exact BindsTo.of_eq rfl); (case c5 => decide); (case kB => exact locs rfl); (case c2 => exact rfl); (case c3 => exact rfl); (case c4 => exact rfl); k_whole; intro g' L' h' FG' F' N' B' X' T'; (try dsimp only [List.length_cons, List.length_nil]); (try k_fold))
  subst hn
  have S := Bs.st
  generalize hnews : led w.params R (a9 ++ (W, t0) :: b9) bs = news at *
  have hW : (W, t0) ∈ a9 ++ (W, t0) :: b9 := by simp
  have ht0 := S.tre
  obtain ⟨ht1, ht2, ht3, ht4, ht5⟩ := S.tre
  obtain ⟨⟨hw1, hw2⟩, hv, hs, ⟨cw, hc⟩⟩ := S.leaf _ hW
  obtain ⟨⟨hr1, hr2⟩, hvr, hr4, hr5, hr6, hr7, hr8⟩ := S.root
  have hw0 : WinIn w.params news W := ⟨hw1, hw2⟩
  have hnz : ¬ W.num = 0 := S.nz _ hW
  have hp : W.par = R.num := S.par _ hW
  have hp0 : ¬ W.par = 0 := by rw [hp]; exact S.rnz
  have hvp : valueAt V.kvs W.par = some (.ref R.x) := by rw [hp]; exact hvr
  have hax' : ¬ ¬ (if R.sort = 2 then (0 : Int) else 1) = ax := fun z => z hax
  dsimp only at hv hs hc
  by_cases hm : (if (if (((b9 ++ a9.reverse).map fun k => k.1.size ax - V.least ax).sum) < dl then (((b9 ++ a9.reverse).map fun k => k.1.size ax - V.least ax).sum) else dl) < V.least ax - W.size ax then V.least ax - W.size ax else (if (((b9 ++ a9.reverse).map fun k => k.1.size ax - V.least ax).sum) < dl then (((b9 ++ a9.reverse).map fun k => k.1.size ax - V.least ax).sum) else dl)) = 0
  · repeat' (first | (k_unfold; (try dsimp only)) | ((fail_if_success (with_reducible show wpAny _ _ (exec (Stmt.While _ _ _ _) _) _ _ _)); (fail_if_success (with_reducible show WhlRest _ _ _ _ _ _ _ _ _ _ _)); (fail_if_success (with_reducible show WStep _ _ _ _ _ _)); first | walk1 | (dsimp only; walk1)))
    walk_at "exec While"
    walk_at "WhlRest"
    repeat' (first | (k_unfold; (try dsimp only)) | ((fail_if_success (with_reducible show wpAny _ _ (exec (Stmt.While _ _ _ _) _) _ _ _)); (fail_if_success (with_reducible show WhlRest _ _ _ _ _ _ _ _ _ _ _)); (fail_if_success (with_reducible show WStep _ _ _ _ _ _)); first | walk1 | (dsimp only; walk1)))
    refine hret _ _ R _ _ (by k_asm) (by rw [hnews]; k_asm) .refl .refl ?_ hpl
    rw [hm, giveL_zero (fun i hi => by have := idxs_lt hi; simp; omega), Int.add_zero, List.map_append, List.map_cons, List.set_append_right _ _ (by simp)]
    simp
  · repeat' (first | (k_unfold; (try dsimp only)) | ((fail_if_success (with_reducible show wpAny _ _ (exec (Stmt.While _ _ _ _) _) _ _ _)); (fail_if_success (with_reducible show WhlRest _ _ _ _ _ _ _ _ _ _ _)); (fail_if_success (with_reducible show WStep _ _ _ _ _ _)); first | walk1 | (dsimp only; walk1)))
    walk_at "exec While"
    walk_at "WhlRest"
    repeat' (first | (k_unfold; (try dsimp only)) | ((fail_if_success (with_reducible show wpAny _ _ (exec (Stmt.While _ _ _ _) _) _ _ _)); (fail_if_success (with_reducible show WhlRest _ _ _ _ _ _ _ _ _ _ _)); (fail_if_success (with_reducible show WStep _ _ _ _ _ _)); first | walk1 | (dsimp only; walk1)))
    refine' resize_c ?B ?F ?X ?N ?T ?hk ?hd ?hu Bs hnews.symm hax (fun z => ?hra) (fun z h9 tk9 R' kids' F9 N9 e1 e2 e3 e4 => ?_)
    (case B => k_asm)
    (case F => k_asm)
    (case X => k_asm)
    (case N => k_asm)
    (case T => k_asm)
    (case hk => exact rfl)
    (case hd => ktr_room)
    (case hu => ktr_units)
    case hra => exact absurd z (much_ok hs0 hsz)
    repeat' (first | (k_unfold; (try dsimp only)) | ((fail_if_success (with_reducible show wpAny _ _ (exec (Stmt.While _ _ _ _) _) _ _ _)); (fail_if_success (with_reducible show WhlRest _ _ _ _ _ _ _ _ _ _ _)); (fail_if_success (with_reducible show WStep _ _ _ _ _ _)); first | walk1 | (dsimp only; walk1)))
    exact hret _ _ R' kids' _ (by k_asm) (by k_asm) e1 e2 e3 e4



end PartD9
section PartD10
theorem words_8 : True := by
  k_with "subscriptTail" => ((with_reducible show wpAny _ _ (subscriptTail _ _ (Value.ref _) (Value.int _ _)) _ _ _); k_dflt (first
    | (refine' ksa_sub ?wk1 ?wk2 ?wk3 ?wk4 ?wk5 ?wk6 ?_ ?wk7; (case wk1 => k_asm); (case wk2 => with_reducible assumption); (case wk3 => with_reducible assumption); (case wk4 => (first | omega | decide | (simp only [List.length_append, List.length_cons, List.length_reverse, List.length_map, List.length_nil, List.length_range, List.length_set]; omega))); (case wk5 => (first | omega | decide | (simp only [List.length_append, List.length_cons, List.length_reverse, List.length_map, List.length_nil, List.length_range, List.length_set]; omega))); (case wk6 => (first | omega | decide | (simp only [List.length_append, List.length_cons, List.length_reverse, List.length_map, List.length_nil, List.length_range, List.length_set]; omega))); (case wk7 => with_unfolding_all rfl); intro _)
    | (refine' item_litK ?wk1 ?wk2 ?wk3 ?wk4 ?_ ?wk6; (case wk1 => kmk_list); (case wk2 => decide); (case wk3 => decide); (case wk4 => rfl); (case wk6 => with_unfolding_all rfl))))
  k_with "setItem ref int" => (k_dflt (refine' set_l ?wF ?wN ?wM ?wU ?wa ?wb ?wc ?_; (case wF => k_asm); (case wN => k_asm); (case wM => k_mem); (case wU => first | (rename (∀ t : Tok, Upd _ _ _ _ _) => hU9; exact hU9 _) | walk_at "upd"); (case wa => (first | omega | decide | (simp only [List.length_append, List.length_cons, List.length_reverse, List.length_map, List.length_nil, List.length_range, List.length_set]; omega))); (case wb => (first | omega | decide | (simp only [List.length_append, List.length_cons, List.length_reverse, List.length_map, List.length_nil, List.length_range, List.length_set]; omega))); (case wc => (first | omega | decide | (simp only [List.length_append, List.length_cons, List.length_reverse, List.length_map, List.length_nil, List.length_range, List.length_set]; omega))); k_whole); intro _ _ wN'; (try dsimp only at wN'); (try k_sweep); (revert wN'; intro _))
  k_with "call builtin:len" => ((with_reducible show wpAny _ _ (call (Value.builtin "len") [Value.ref _]) _ _ _); k_dflt (refine' PySem.W.KM.len_K ?wN ?wm ?ws ?wf ?_; (case wN => k_asm); (case wm => k_mem); (case ws => first | exact (List.size_toArray ..).trans (IntsAre.length (by with_reducible assumption)) | exact rfl); (case wf => first | omega | decide | (simp only [List.length_append, List.length_cons, List.length_reverse, List.length_map, List.length_nil, List.length_range, List.length_set] at *; omega)); k_whole))
  trivial

set_option maxRecDepth 100000 in
set_option maxHeartbeats 8000000 in
theorem draw_c {w : World} {p : Program} {loose : List Str} {mean : ExcName → Option Value} {mg mb : Str → Option Value} {dp un : Nat} {gd : Option (List Code)} {cn : Str} {cs : Scope} {a : Addr} {ccd : Value} {cl : List (Str × Addr)} {outer : List Env} {A₀ : Around} {base h₀ : Heap} {L : Addr} {m : Str → Option Value} {news : List (Addr × Obj)} {s : Shared} {Q E : Value → Shared → Prop} {dk ce : Addr} {cv : List Value} {ns : List Int} {k mn : Int} {n0 n1 : Nat} {tk tk0 : Tok} {nw : Tok → List (Addr × Obj)}
    (B : Below A₀ base outer h₀) (F : Fr h₀ L s.heap m) (X : (Mine.hd.heap_39 w.params).In h₀) (N : News h₀ L s.heap news) (T : Top p loose mean mg mb h₀) (hk : cs.kind = .function) (hd : dp + 20 < recursionLimit) (hu : un + 200 < cLine)
    (hd1 : (dk, listOf #[.ref ce, .int k tk0] n0) ∈ news) (hd2 : (ce, listOf cv.toArray n1) ∈ news) (hi : IntsAre cv ns) (hlen : ns.length ≤ 63) (hk0 : 0 ≤ k) (hk9 : k ≤ 1000) (hmn : 0 < mn) (hmx : mn ≤ 1000) (hne : ce ≠ dk) (U : ∀ t, Upd dk (listOf #[.ref ce, .int k tk0] n0) (listOf #[.ref ce, .int (k + 1) t] n0) news (nw t))
    (hret : ∀ (r : Int) (t9 t8 : Tok) (h9 : Heap) (tk9 : Nat), 0 ≤ r → r < mn → Fr h₀ L h9 m → News h₀ L h9 (nw t8) → Q (.int r t9) { s with heap := h9, toks := tk9 }) :
    wpAny (model PySem.Challenge.rw_np0057_01.row.prog w) (ktrTop dp un gd cn cs L a ccd cl outer) (call (.ref 300) [.ref dk, .int mn tk]) Q E s := by
  refine wpAny_call ?_
  k_dflt (refine' code_def (binds := [(Str.ofString "deck", .ref dk), (Str.ofString "many", .int mn tk)]) ?k1 ?k2 ?k3 ?k4 ?k5 ?kA ?kF ?kK ?k6 ?k7 ?k8 ?k9 ?kB ?_ ?c2 ?c3 ?c4 ?c5; (case kA => exact rfl); (case kF => exact rfl); (case kK => assumption); (case k1 => exact B); (case k2 => exact F); (case k3 => exact X); (case k4 => exact N); (case k5 => exact T); (case k6 => k_is); (case k7 => k_is); (case k8 => ktr_room); (case k9 => exact BindsTo.of_eq rfl); (case c5 => decide); (case kB => exact locs rfl); (case c2 => exact rfl); (case c3 => exact rfl); (case c4 => exact rfl); k_whole; intro g' L' h' FG' F' N' B' X' T'; (try dsimp only [List.length_cons, List.length_nil]); (try k_fold))
  have hmn0 : ¬ mn = 0 := by omega
  by_cases hin : k + 1 ≤ (ns.length : Int)
  · repeat' (first | (k_unfold; (try dsimp only)) | ((fail_if_success (with_reducible show wpAny _ _ (PySem.setItem _ _ _) _ _ _)); first | walk1 | (dsimp only; walk1)))
    refine' set_l ?F ?N hd1 (U _) ?a ?b ?c ?_
    (case F => k_asm)
    (case N => k_asm)
    (case a => omega)
    (case b => (simp only [List.length_cons, List.length_nil]; omega))
    (case c => omega)
    intro h' F' N'
    generalize hnn : nw _ = nn at N'
    have hm1 : (dk, listOf #[.ref ce, .int (k + 1) _] n0) ∈ nn := hnn ▸ Upd.new (U _)
    have hm2 : (ce, listOf cv.toArray n1) ∈ nn := hnn ▸ Upd.keep (U _) hd2 hne
    repeat' (first | (k_unfold; (try dsimp only)) | ((fail_if_success (with_reducible show wpAny _ _ (exec (Stmt.While _ _ _ _) _) _ _ _)); (fail_if_success (with_reducible show WhlRest _ _ _ _ _ _ _ _ _ _ _)); (fail_if_success (with_reducible show WStep _ _ _ _ _ _)); first | walk1 | (dsimp only; walk1)))
    exact hret _ _ _ _ _ (Int.fmod_nonneg_of_pos _ hmn) (Int.fmod_lt_of_pos _ hmn) (by k_asm) (by rw [hnn]; k_asm)
  · repeat' (first | (k_unfold; (try dsimp only)) | ((fail_if_success (with_reducible show wpAny _ _ (PySem.setItem _ _ _) _ _ _)); first | walk1 | (dsimp only; walk1)))
    refine' set_l ?F ?N hd1 (U _) ?a ?b ?c ?_
    (case F => k_asm)
    (case N => k_asm)
    (case a => omega)
    (case b => (simp only [List.length_cons, List.length_nil]; omega))
    (case c => omega)
    intro h' F' N'
    generalize hnn : nw _ = nn at N'
    have hm1 : (dk, listOf #[.ref ce, .int (k + 1) _] n0) ∈ nn := hnn ▸ Upd.new (U _)
    have hm2 : (ce, listOf cv.toArray n1) ∈ nn := hnn ▸ Upd.keep (U _) hd2 hne
    repeat' (first | (k_unfold; (try dsimp only)) | ((fail_if_success (with_reducible show wpAny _ _ (exec (Stmt.While _ _ _ _) _) _ _ _)); (fail_if_success (with_reducible show WhlRest _ _ _ _ _ _ _ _ _ _ _)); (fail_if_success (with_reducible show WStep _ _ _ _ _ _)); first | walk1 | (dsimp only; walk1)))
    exact hret _ _ _ _ _ (Int.fmod_nonneg_of_pos _ hmn) (Int.fmod_lt_of_pos _ hmn) (by k_asm) (by rw [hnn]; k_asm)



end PartD10
section PartD11
theorem words_9 : True := by
  k_with "call type:list" => ((with_reducible show wpAny _ _ (call (Value.type "list") [Value.ref _]) _ _ _); k_dflt (first
    | ((rename IsRange _ _ _ _ _ _ _ _ => rgX); refine' rng_list ?whh ?wF ?wN rgX ?ws ?wn ?wz ?we ?_; (case whh => exact rfl); (case wF => k_asm); (case wN => k_asm); (case ws => first | with_reducible exact up_small (by assumption) (by assumption) | with_reducible exact dn_small (by omega)); (case wn => first | with_reducible exact up_size (by assumption) | with_reducible exact dn_size (by omega)); (case wz => omega); (case we => first | exact up_list | exact dn_list); k_whole)
    | (refine' list_copyK ?wF ?wN ?wl ?_ ?wz; (case wF => k_asm); (case wN => k_asm); (case wl => kmk_list); (case wz => (rw [List.size_toArray, IntsAre.length (by with_reducible assumption)]; refine Nat.le_trans (m := 100) ?_ (by decide); omega)); k_whole)); first | (intro _ _ _ _ _ _ _ wl1 _; (try clear rgX); (try k_lt wl1); (try k_sweep); (revert wl1; intro _)) | (intro _ _ _ _ _ wl1; (try k_lt wl1); (try k_sweep); (revert wl1; intro _)))
  k_with "binaryOp Add ref ref" => (k_dflt (refine' kmk_add_ints ?wF ?wN ?wa ?wb ?wi ?wj ?_ ?wz; (case wF => k_asm); (case wN => k_asm); (case wa => kmk_list); (case wb => kmk_list); (case wi => with_reducible assumption); (case wj => with_reducible assumption); (case wz => (simp only [List.length_append, List.length_cons, List.length_reverse, List.length_map, List.length_nil, List.length_range] at *; refine Nat.le_trans (m := 100) ?_ (by decide); omega))); intro _ _ _ _ _ wl1 _; (try k_lt wl1); (try k_sweep); (revert wl1; intro _))
  k_with "setItem ref int" => (k_dflt (refine' set_i ?wF ?wN ?wM ?wi ?wU ?wa ?wb ?wc ?_; (case wF => k_asm); (case wN => k_asm); (case wM => k_mem); (case wi => with_reducible assumption); (case wU => walk_at "upd"); (case wa => (first | omega | (simp only [List.length_append, List.length_cons, List.length_reverse, List.length_map, List.length_nil, List.length_range, List.length_set]; omega))); (case wb => (first | omega | (simp only [List.length_append, List.length_cons, List.length_reverse, List.length_map, List.length_nil, List.length_range, List.length_set]; omega))); (case wc => (first | omega | (simp only [List.length_append, List.length_cons, List.length_reverse, List.length_map, List.length_nil, List.length_range, List.length_set]; omega))); k_whole); intro _ _ wN' wt0; (try dsimp only at wN'); (try k_sweep); (revert wN' wt0; intro _ _))
  k_with "subscriptTail Name Constant ref int" => ((with_reducible show wpAny _ _ (subscriptTail _ _ (Value.ref _) (Value.int _ _)) _ _ _); k_dflt (first | (refine' item_litK ?wk1 ?wk2 ?wk3 ?wk4 ?_ ?wk6; (case wk1 => kmk_list); (case wk2 => decide); (case wk3 => decide); (case wk4 => rfl); (case wk6 => with_unfolding_all rfl)) | (refine' ksa_sub ?wk1 ?wk2 ?wk3 ?wk4 ?wk5 ?wk6 ?_ ?wk7; (case wk1 => k_asm); (case wk2 => k_mem); (case wk3 => with_reducible assumption); (case wk4 => (first | omega | (simp only [List.length_append, List.length_cons, List.length_reverse, List.length_map, List.length_nil, List.length_range, List.length_set]; omega))); (case wk5 => (first | omega | (simp only [List.length_append, List.length_cons, List.length_reverse, List.length_map, List.length_nil, List.length_range, List.length_set]; omega))); (case wk6 => (first | omega | (simp only [List.length_append, List.length_cons, List.length_reverse, List.length_map, List.length_nil, List.length_range, List.length_set]; omega))); (case wk7 => with_unfolding_all rfl); intro _)))
  k_with "subscriptTail Name Name ref int" => ((with_reducible show wpAny _ _ (subscriptTail _ _ (Value.ref _) (Value.int _ _)) _ _ _); k_dflt (first | (refine' ksa_sub ?wk1 ?wk2 ?wk3 ?wk4 ?wk5 ?wk6 ?_ ?wk7; (case wk1 => k_asm); (case wk2 => k_mem); (case wk3 => with_reducible assumption); (case wk4 => (first | omega | (simp only [List.length_append, List.length_cons, List.length_reverse, List.length_map, List.length_nil, List.length_range, List.length_set]; omega))); (case wk5 => (first | omega | (simp only [List.length_append, List.length_cons, List.length_reverse, List.length_map, List.length_nil, List.length_range, List.length_set]; omega))); (case wk6 => (first | omega | (simp only [List.length_append, List.length_cons, List.length_reverse, List.length_map, List.length_nil, List.length_range, List.length_set]; omega))); (case wk7 => with_unfolding_all rfl); intro _)))
  k_with "subscriptTail" => ((with_reducible show wpAny _ _ (subscriptTail _ _ (Value.ref _) (Value.int _ _)) _ _ _); k_dflt (first | (refine' ksa_sub ?wk1 ?wk2 ?wk3 ?wk4 ?wk5 ?wk6 ?_ ?wk7; (case wk1 => k_asm); (case wk2 => k_mem); (case wk3 => with_reducible assumption); (case wk4 => (first | omega | (simp only [List.length_append, List.length_cons, List.length_reverse, List.length_map, List.length_nil, List.length_range, List.length_set]; omega))); (case wk5 => (first | omega | (simp only [List.length_append, List.length_cons, List.length_reverse, List.length_map, List.length_nil, List.length_range, List.length_set]; omega))); (case wk6 => (first | omega | (simp only [List.length_append, List.length_cons, List.length_reverse, List.length_map, List.length_nil, List.length_range, List.length_set]; omega))); (case wk7 => with_unfolding_all rfl); intro _) | (refine' item_litK ?wk1 ?wk2 ?wk3 ?wk4 ?_ ?wk6; (case wk1 => kmk_list); (case wk2 => decide); (case wk3 => decide); (case wk4 => rfl); (case wk6 => with_unfolding_all rfl))))
  trivial


def takenF (least : Int) (a b : Nat) (rs : List Int) (dl : Int) : Option (List Int) :=
  if dl < 0 then
    (if rs.getD a 0 + dl < least then none
    else some (((rs.set ((idxs a b).getD 0 0) (rs.getD ((idxs a b).getD 0 0) 0 - dl))).set a ((rs.set ((idxs a b).getD 0 0) (rs.getD ((idxs a b).getD 0 0) 0 - dl)).getD a 0 + dl)))
  else
    (if (takeL least dl (idxs a b) rs).1 = 0 then some ((takeL least dl (idxs a b) rs).2.set a ((takeL least dl (idxs a b) rs).2.getD a 0 + dl)) else none)
set_option maxRecDepth 100000 in
set_option maxHeartbeats 8000000 in
theorem taken_c {w : World} {p : Program} {loose : List Str} {mean : ExcName → Option Value} {mg mb : Str → Option Value} {dp un : Nat} {gd : Option (List Code)} {cn : Str} {cs : Scope} {a : Addr} {ccd : Value} {cl : List (Str × Addr)} {outer : List Env} {A₀ : Around} {base h₀ : Heap} {L : Addr} {m : Str → Option Value} {news : List (Addr × Obj)} {s : Shared} {Q E : Value → Shared → Prop} {rl : Addr} {rv : List Value} {rs : List Int} {na nb n0 : Nat} {aI dl least : Int} {tkA tk2 tk3 : Tok}
    (B : Below A₀ base outer h₀) (F : Fr h₀ L s.heap m) (X : (Mine.hd.heap_39 w.params).In h₀) (N : News h₀ L s.heap news) (T : Top p loose mean mg mb h₀) (hk : cs.kind = .function) (hd : dp + 20 < recursionLimit) (hu : un + 200 < cLine)
    (hd1 : (rl, listOf rv.toArray n0) ∈ news) (hi : IntsAre rv rs) (haI : aI = (na : Int)) (hlen : rs.length = na + 1 + nb) (hab : 1 ≤ na + nb) (hab9 : na + nb ≤ 9)
    (hN : takenF least na nb rs dl = none → ∀ (h9 : Heap) (tk9 : Nat), Fr h₀ L h9 m → News h₀ L h9 news → Q .none { s with heap := h9, toks := tk9 })
    (hret : ∀ (res : List Int), takenF least na nb rs dl = some res → ∀ (l : Addr) (fv : List Value) (n : Nat) (h9 : Heap) (tk9 : Nat), Fr h₀ L h9 m → News h₀ L h9 ((l, listOf fv.toArray n) :: news) → IntsAre fv res → (∀ p ∈ news, p.1 < l) → Q (.ref l) { s with heap := h9, toks := tk9 }) :
    wpAny (model PySem.Challenge.rw_np0057_01.row.prog w) (ktrTop dp un gd cn cs L a ccd cl outer) (call (.ref 307) [.ref rl, .int aI tkA, .int dl tk2, .int least tk3]) Q E s := by
  refine wpAny_call ?_
  k_dflt (refine' code_def (binds := [(Str.ofString "rooms", .ref rl), (Str.ofString "at", .int aI tkA), (Str.ofString "delta", .int dl tk2), (Str.ofString "least", .int least tk3)]) ?k1 ?k2 ?k3 ?k4 ?k5 ?kA ?kF ?kK ?k6 ?k7 ?k8 ?k9 ?kB ?_ ?c2 ?c3 ?c4 ?c5; (case kA => exact rfl); (case kF => exact rfl); (case kK => assumption); (case k1 => exact B); (case k2 => exact F); (case k3 => exact X); (case k4 => exact N); (case k5 => exact T); (case k6 => k_is); (case k7 => k_is); (case k8 => ktr_room); (case k9 => exact BindsTo.of_eq rfl); (case c5 => decide); (case kB => exact locs rfl); (case c2 => exact rfl); (case c3 => exact rfl); (case c4 => exact rfl); k_whole; intro g' L' h' FG' F' N' B' X' T'; (try dsimp only [List.length_cons, List.length_nil]); (try k_fold))
  subst haI
  repeat' (first | (k_unfold; (try dsimp only)) | ((fail_if_success (with_reducible show wpAny _ _ (PySem.exec (PySem.Stmt.If _ _ _ _) _) _ _ _)); first | walk1 | (dsimp only; walk1)))
  rename News _ _ _ _ => N1
  rename Fr _ _ _ _ => F1
  rename IntsAre _ _ => hIo
  rename_i fl cf _ l1f _ _ _ _ _ _ _ _ _ _ _ _ _ _ _ _ _ _ _ _ _ _ _ _ _ _ _ _ ol ov _ l1o _
  have hchk : fl < ol := l1o.2.2.1
  rw [idxs_map] at hIo
  clear hu
  by_cases hdl : dl < 0
  · obtain ⟨i0, is0, hidx⟩ : ∃ i0 is0, idxs na nb = i0 :: is0 := by
      cases h : idxs na nb with
      | nil =>
        have := congrArg List.length h
        simp [idxs] at this
        omega
      | cons a b => exact ⟨a, b, rfl⟩
    have hi0 := idxs_lt (a := na) (b := nb) (i := i0) (by rw [hidx]; exact .head _)
    rw [hidx, List.map_cons] at hIo
    cases hIo with | cons _ t9 hIo => ?_
    by_cases hs : rs.getD (na : Int).toNat 0 + dl < least
    · repeat' (first | (k_unfold; (try dsimp only)) | ((fail_if_success (with_reducible show wpAny _ _ (exec (Stmt.While _ _ _ _) _) _ _ _)); (fail_if_success (with_reducible show WhlRest _ _ _ _ _ _ _ _ _ _ _)); (fail_if_success (with_reducible show WStep _ _ _ _ _ _)); first | walk1 | (dsimp only; walk1)))
      rename News _ _ _ _ => N8
      exact hN (by unfold takenF; rw [if_pos hdl, if_pos (by simpa using hs)]) _ _ (by k_asm) (cb_drop N8 (fun p hp => by k_mem))
    · repeat' (first | (k_unfold; (try dsimp only)) | ((fail_if_success (with_reducible show wpAny _ _ (exec (Stmt.While _ _ _ _) _) _ _ _)); (fail_if_success (with_reducible show WhlRest _ _ _ _ _ _ _ _ _ _ _)); (fail_if_success (with_reducible show WStep _ _ _ _ _ _)); first | walk1 | (dsimp only; walk1)))
      rename News _ _ _ _ => N8
      rename IntsAre _ _ => hI8
      refine hret _ ?he fl _ cf _ _ (by k_asm) (cb_drop N8 (List.forall_mem_cons.mpr ⟨by k_mem, fun p hp => by k_mem⟩)) hI8 l1f
      unfold takenF
      rw [if_pos hdl, if_neg (by simpa using hs)]
      simp only [hidx, List.getD_cons_zero, Int.toNat_natCast]
  · repeat' (first | (k_unfold; (try dsimp only)) | ((fail_if_success (with_reducible show wpAny _ _ (exec (Stmt.While _ _ _ _) _) _ _ _)); (fail_if_success (with_reducible show WhlRest _ _ _ _ _ _ _ _ _ _ _)); (fail_if_success (with_reducible show WStep _ _ _ _ _ _)); first | walk1 | (dsimp only; walk1)))
    rename News _ _ _ _ => N2
    rename Fr _ _ _ _ => F2
    rename_i I lI
    refine lst_ind (fun vs m' nw' => ∃ (is : List Nat) (lc : Int) (tlc : Tok) (fv : List Value) (fs : List Int), IntsAre vs (is.map (fun i : Nat => (i : Int))) ∧ (∀ i ∈ is, i < na + 1 + nb ∧ i ≠ na) ∧ IntsAre fv fs ∧ fs.length = na + 1 + nb ∧ takeL least lc is fs = takeL least dl (idxs na nb) rs ∧
        m' (Str.ofString "found") = some (.ref fl) ∧ m' (Str.ofString "at") = some (.int (na : Int) tkA) ∧ m' (Str.ofString "delta") = some (.int dl tk2) ∧ m' (Str.ofString "least") = some (.int least tk3) ∧ m' (Str.ofString "left") = some (.int lc tlc) ∧
        ∀ p ∈ (fl, listOf fv.toArray cf) :: (ol, listOf ov.toArray 0) :: news, p ∈ nw')
      ⟨idxs na nb, dl, tk2, rv, rs, hIo, (fun i hi => idxs_lt hi), hi, hlen, rfl, rfl, rfl, rfl, rfl, rfl, ?h0⟩ ?turn ?done
    case h0 => exact List.forall_mem_cons.mpr ⟨by k_mem, List.forall_mem_cons.mpr ⟨by k_mem, fun p hp => by k_mem⟩⟩
    case turn =>
      clear F2 N2
      intro v r m' nw' hX9 it h tk9 hc9 F2 N2
      refine ex5 hX9 ?_
      clear hX9
      intro is lc tlc fv fs hX9
      refine an11 hX9 ?_
      clear hX9
      intro hIv his hIf hfl htk m1 m2 m3 m4 m5 hin
      cases is with
      | nil => cases hIv
      | cons i is =>
        cases hIv with | cons _ t9 hIv => ?_
        have hi9 := his i (.head _)
        have N3 : News g' L' h ((I, it) :: (fl, listOf fv.toArray cf) :: (ol, listOf ov.toArray 0) :: news) := cb_drop N2 (List.forall_mem_cons.mpr ⟨.head _, fun p hp => .tail _ (hin p hp)⟩)
        have F3 : Fr g' L' h _ := F2
        clear N2 F2 hi
        have hIfl : I ≠ fl := Nat.ne_of_gt lI.2.2.2.1
        have hfn : ∀ p ∈ news, p.1 ≠ fl := fun p hp => Nat.ne_of_lt (l1f p hp)
        have holf : ol ≠ fl := Nat.ne_of_gt hchk
        repeat' (first | (k_unfold; (try dsimp only)) | ((fail_if_success (with_reducible show wpAny _ _ (exec (Stmt.While _ _ _ _) _) _ _ _)); (fail_if_success (with_reducible show WhlRest _ _ _ _ _ _ _ _ _ _ _)); (fail_if_success (with_reducible show WStep _ _ _ _ _ _)); first | walk1 | (dsimp only; walk1)))
        rename News _ _ _ _ => N4
        rename Fr _ _ _ _ => F4
        rename IntsAre _ _ => hI4
        refine LStep.next ((fl, listOf _ cf) :: (ol, listOf ov.toArray 0) :: news) F4 N4 (fun p hp => hp) ?_ (.tail _ (.head _)) ⟨is, _, _, _, _, hIv, fun j hj => his j (.tail _ hj), hI4, by simp [hfl], ?_, m1, m2, m3, m4, rfl, fun p hp => hp⟩
        · exact List.forall_mem_cons.mpr ⟨Ne.symm hIfl, List.forall_mem_cons.mpr ⟨Nat.ne_of_lt lI.1, fun p hp => Nat.ne_of_lt (ktn_ltOf lI.2.2.2.2 p hp)⟩⟩
        · rw [← htk]
          simp only [takeL, Int.toNat_natCast]
    case done =>
      clear F2 N2
      intro m' nw' h tk9 hX9 F2 N2
      refine ex5 hX9 ?_
      clear hX9
      intro is lc tlc fv fs hX9
      refine an11 hX9 ?_
      clear hX9
      intro hIv his hIf hfl htk m1 m2 m3 m4 m5 hin
      have his' : is = [] := by cases is with
        | nil => rfl
        | cons _ _ => cases hIv
      subst his'
      have N3 : News g' L' h ((fl, listOf fv.toArray cf) :: news) := cb_drop N2 (List.forall_mem_cons.mpr ⟨hin _ (.head _), fun p hp => hin p (.tail _ (.tail _ hp))⟩)
      have F3 : Fr g' L' h _ := F2
      clear N2 F2 hi
      by_cases hz : lc = 0
      · repeat' (first | (k_unfold; (try dsimp only)) | ((fail_if_success (with_reducible show wpAny _ _ (exec (Stmt.While _ _ _ _) _) _ _ _)); (fail_if_success (with_reducible show WhlRest _ _ _ _ _ _ _ _ _ _ _)); (fail_if_success (with_reducible show WStep _ _ _ _ _ _)); first | walk1 | (dsimp only; walk1)))
        rename News _ _ _ _ => N8
        rename IntsAre _ _ => hI8
        refine hret _ ?he2 fl _ cf _ _ (by k_asm) (cb_drop N8 (List.forall_mem_cons.mpr ⟨by k_mem, fun p hp => by k_mem⟩)) hI8 l1f
        case he2 =>
          unfold takenF
          rw [if_neg hdl, ← htk]
          simp only [takeL, Int.toNat_natCast]
          exact if_pos hz
      · repeat' (first | (k_unfold; (try dsimp only)) | ((fail_if_success (with_reducible show wpAny _ _ (exec (Stmt.While _ _ _ _) _) _ _ _)); (fail_if_success (with_reducible show WhlRest _ _ _ _ _ _ _ _ _ _ _)); (fail_if_success (with_reducible show WStep _ _ _ _ _ _)); first | walk1 | (dsimp only; walk1)))
        rename News _ _ _ _ => N8
        exact hN (by unfold takenF; rw [if_neg hdl, ← htk]; simp only [takeL]; exact if_neg hz) _ _ (by k_asm) (cb_drop N8 (fun p hp => by k_mem))



end PartD11
section PartD12
theorem words_10 : True := by
  k_with_none
  k_with "room" => first | exact rm2 hd rfl | exact rm1 hd rfl | exact rm0 hd | exact rm3 hd rfl | exact Nat.le_of_ble_eq_true rfl
  k_with "units" => first | exact rm2 hu rfl | exact rm1 hu rfl | exact rm0 hu | exact rm3 hu rfl | exact Nat.le_of_ble_eq_true rfl
  k_with "pj" => first | with_reducible assumption | with_reducible exact And.left (by assumption) | with_reducible exact And.left (And.right (by assumption)) | with_reducible exact And.right (by assumption) | with_reducible exact And.left (And.right (And.right (by assumption))) | with_reducible exact And.right (And.right (by assumption)) | with_reducible exact And.left (And.right (And.right (And.right (by assumption)))) | with_reducible exact And.right (And.right (And.right (by assumption))) | with_reducible exact And.left (And.right (And.right (And.right (And.right (by assumption))))) | with_reducible exact And.right (And.right (And.right (And.right (by assumption)))) | with_reducible exact And.left (And.right (And.right (And.right (And.right (And.right (by assumption)))))) | with_reducible exact And.right (And.right (And.right (And.right (And.right (by assumption))))) | with_reducible exact And.left (And.right (And.right (And.right (And.right (And.right (And.right (by assumption))))))) | with_reducible exact And.right (And.right (And.right (And.right (And.right (And.right (by assumption)))))) | with_reducible exact And.left (And.right (And.right (And.right (And.right (And.right (And.right (And.right (by assumption)))))))) | with_reducible exact And.right (And.right (And.right (And.right (And.right (And.right (And.right (by assumption))))))) | with_reducible exact And.left (And.right (And.right (And.right (And.right (And.right (And.right (And.right (And.right (by assumption))))))))) | with_reducible exact And.right (And.right (And.right (And.right (And.right (And.right (And.right (And.right (by assumption)))))))) | with_reducible exact And.left (And.right (And.right (And.right (And.right (And.right (And.right (And.right (And.right (And.right (by assumption)))))))))) | with_reducible exact And.right (And.right (And.right (And.right (And.right (And.right (And.right (And.right (And.right (by assumption))))))))) | with_reducible exact And.left (And.right (And.right (And.right (And.right (And.right (And.right (And.right (And.right (And.right (And.right (by assumption))))))))))) | with_reducible exact And.right (And.right (And.right (And.right (And.right (And.right (And.right (And.right (And.right (And.right (by assumption)))))))))) | with_reducible exact And.left (And.right (And.right (And.right (And.right (And.right (And.right (And.right (And.right (And.right (And.right (And.right (by assumption)))))))))))) | with_reducible exact And.right (And.right (And.right (And.right (And.right (And.right (And.right (And.right (And.right (And.right (And.right (by assumption))))))))))) | with_reducible exact And.left (And.right (And.right (And.right (And.right (And.right (And.right (And.right (And.right (And.right (And.right (And.right (And.right (by assumption))))))))))))) | with_reducible exact And.right (And.right (And.right (And.right (And.right (And.right (And.right (And.right (And.right (And.right (And.right (And.right (by assumption)))))))))))) | with_reducible exact And.left (And.right (And.right (And.right (And.right (And.right (And.right (And.right (And.right (And.right (And.right (And.right (And.right (And.right (by assumption)))))))))))))) | with_reducible exact And.right (And.right (And.right (And.right (And.right (And.right (And.right (And.right (And.right (And.right (And.right (And.right (And.right (by assumption)))))))))))))
  k_with "ne0" => (refine neN ?_; (try dsimp only); first | with_reducible assumption | exact Ne.symm (by with_reducible assumption) | exact Nat.ne_of_lt (by walk_at "pj") | exact Nat.ne_of_gt (by walk_at "pj") | walk_at "ne1")
  k_with "allmem" => first | exact List.forall_mem_nil _ | exact List.forall_mem_cons.mpr ⟨by k_mem, by walk_at "allmem"⟩ | exact all_self | exact all_tail (by walk_at "allmem")
  k_with "subscriptTail" => (k_here; (with_reducible show wpAny _ _ (subscriptTail _ _ (Value.ref _) (Value.int _ _)) _ _ _); k_dflt (refine kdt_tail (knd := PySem.intKind _ _) (by k_asm) (by k_mem) (by k_asm) ?_))
  k_with "getItem ref int" => (k_here; k_dflt (refine kdt_getItem (knd := PySem.intKind _ _) (by k_asm) (by k_mem) (by k_asm) (intKind_is _ _ _ _) (by first | k_asm | exact valueAt_stored) ?_))
  k_with "getMethod ref" => (k_here; (with_reducible show wpAny _ _ (getMethod (Value.ref _) (Str.ofString "get") _) _ _ _); k_dflt (refine kdg_method (knd := PySem.intKind _ _) (by k_asm) (by k_mem) (by k_asm) ?_))
  k_with "call builtin:dict.get" => (k_here; k_dflt (refine kdg_get2 (knd := PySem.intKind _ _) (by k_asm) (by k_mem) (by k_asm) (by k_asm) (intKind_is _ _ _ _) (some _) (by k_asm) ?_); (try dsimp only [Option.getD]))
  k_with "compareOp NotEq ref ref" => (k_here; k_dflt (first | (refine ne_nil_none (by k_asm) (by k_mem) (by k_mem) (by ktr_units) ?_) | (refine ne_nil_some (by k_asm) (by k_mem) (by k_mem) (by first | rfl | simp) (by ktr_units) ?_)))
  k_with "k_mem" => first | with_reducible assumption | with_reducible exact List.mem_cons_self | (with_reducible refine List.mem_cons_of_mem _ ?_; k_mem) | assumption
  k_with "eval Name" => (k_dflt (first
    | (refine' nameX_L ?wF ?wv ?_ ?wa ?wb; (case wF => with_reducible assumption); (case wa => rfl); (case wb => rfl); (case wv => first | rfl | assumption); k_whole)
    | (refine' nameX_K ?wF ?wX ?wT ?we ?_ ?wa ?wb; (case wF => k_asm); (case wX => k_asm); (case wT => k_asm); (case wa => rfl); (case wb => rfl); (case we => k_is); k_whole)))
  k_with "callWith" => first
    | with_reducible refine callWith_method0 ?_
    | (with_reducible refine' callWith_method1 ?_ ?whe ?whp; (case whe => k_dflt exact rfl); (case whp => k_dflt exact rfl))
  k_with "newList" => (k_dflt (refine' newList_K ?wk1 ?wk2 ?_; (case wk1 => k_asm); (case wk2 => k_asm); k_whole); intro _ _ _ _ wl1; (try k_lt wl1); (try k_sweep); (revert wl1; intro _))
  k_with "execs cons" => ((try k_gentoks); (with_reducible refine wpAny_execs_cons ?_); try dsimp only)
  k_with "exec Assign" => first
    | (with_reducible refine' wpAny_Assign_Name ?_ ?whs; (case whs => k_dflt exact rfl))
    | (with_reducible refine plainObj_wpAny_Assign_Attribute ?_ ?_; rotate_left; with_unfolding_all rfl)
  k_with "subscriptTail Attribute" => ((with_reducible show wpAny _ _ (subscriptTail _ (PySem.Expr.Slice _ _ _ _) _ _) _ _ _); k_dflt (refine kba_turn (value' := PySem.Expr.Name (PySem.Str.ofString "_") ⟨0, 0, 0, 0⟩) (fun _ => rfl) ?_))
  k_with "exec While" => (k_dflt (refine whl_start 100 ?_))
  k_with "eval Call Attribute" => (refine MethodCall_ ?_)
  k_with "getAttr ref" => (k_dflt (refine' get_own ?wk1 ?wk2 ?wk3 ?wk4 ?wk5 ?wk6 ?wk7 ?wk8 ?wk9 ?_; (case wk1 => k_asm); (case wk2 => k_asm); (case wk3 => (refine' InstAt.of_news ?wN ?wh1 ?wh2; (case wN => k_asm); (case wh1 => k_mem); (case wh2 => k_mem))); (case wk4 => k_is); (case wk5 => k_is); (case wk6 => k_is); (case wk7 => k_is); (case wk8 => k_get); (case wk9 => rfl); k_whole))
  k_with "tin" => first | with_reducible assumption | (with_reducible refine TreIn.cons ?_; walk_at "tin") | (with_reducible refine WinIn.cons ?_; walk_at "tin") | (with_reducible refine LeafIn.cons ?_; walk_at "tin") | (with_reducible refine RootIn.cons ?_; walk_at "tin") | exact St.cons (by walk_at "tin")
  k_with "UnrEnd" => (k_dflt (first   | (refine' unr_at [] ?wF ?wN ?wo1 ?wo2 ?_; (case wF => k_asm); (case wN => k_asm); (case wo1 => k_all); (case wo2 => k_all))   | (refine' unr_at [_] ?wF ?wN ?wo1 ?wo2 ?_; (case wF => k_asm); (case wN => k_asm); (case wo1 => k_all); (case wo2 => k_all))   | (refine' unr_at [_, _] ?wF ?wN ?wo1 ?wo2 ?_; (case wF => k_asm); (case wN => k_asm); (case wo1 => k_all); (case wo2 => k_all))   | (refine' unr_at [_, _, _] ?wF ?wN ?wo1 ?wo2 ?_; (case wF => k_asm); (case wN => k_asm); (case wo1 => k_all); (case wo2 => k_all))   | (refine' unr_at [_, _, _, _] ?wF ?wN ?wo1 ?wo2 ?_; (case wF => k_asm); (case wN => k_asm); (case wo1 => k_all); (case wo2 => k_all))   | (refine' unr_at [_, _, _, _, _] ?wF ?wN ?wo1 ?wo2 ?_; (case wF => k_asm); (case wN => k_asm); (case wo1 => k_all); (case wo2 => k_all))   | (refine' unr_at [_, _, _, _, _, _] ?wF ?wN ?wo1 ?wo2 ?_; (case wF => k_asm); (case wN => k_asm); (case wo1 => k_all); (case wo2 => k_all))); (try dsimp only [List.cons_append, List.nil_append]); (refine ⟨by k_mem, ?_⟩))
  k_with "pyIter ref" => ((with_reducible show wpAny _ _ (pyIter (Value.ref _)) (fun it s₂ => LoopAtV _ _ _ _ _ _ _ _ _ it s₂) _ _); k_dflt (first | (refine' iter_listUnr rfl ?wF ?wN ?whm ?whc ?whd ?_; (case wF => k_asm); (case wN => k_asm); (case whm => k_mem); (case whc => exact rfl); (case whd => exact rfl)) | (refine' iter_listUnr (vs := [_]) rfl ?wF ?wN ?whm ?whc ?whd ?_; (case wF => k_asm); (case wN => k_asm); (case whm => k_mem); (case whc => exact rfl); (case whd => exact rfl))); intro _ wlI; (try k_lt wlI); (revert wlI; intro _))
  k_with "exec For" => ((with_unfolding_all refine' For_invVF (by k_asm) ?wk1 ?wk2 ?_; (case wk1 => exact rfl); (case wk2 => exact rfl); k_whole))
  k_with "ite" => first
    | with_reducible refine ite_eqp (by first | assumption | omega) ?_ | with_reducible refine ite_eqn (by first | assumption | omega) ?_
    | with_reducible refine ite_nep (by first | assumption | omega) ?_ | with_reducible refine ite_nen (by first | assumption | omega) ?_
    | with_reducible refine ite_decp (by first | assumption | omega) ?_ | with_reducible refine ite_decn (by first | assumption | omega) ?_
  k_with "call builtin:list.pop" => (k_dflt (refine' pop_l ?wF ?wN ?wU ?wz ?_; (case wF => k_asm); (case wN => k_asm); (case wU => walk_at "upd"); (case wz => (simp only [List.length_append, List.length_reverse, List.length_map, List.length_cons, List.length_nil] at *; omega)); k_whole); intro _ _ wN'; (try dsimp only at wN'); (try k_sweep); (revert wN'; intro _))
  k_with "call builtin:list.append" => (k_dflt (refine' append_l ?wF ?wN ?wU ?wz ?_; (case wF => k_asm); (case wN => k_asm); (case wU => walk_at "upd"); (case wz => (simp only [List.length_append, List.length_reverse, List.length_map, List.length_cons, List.length_nil] at *; omega)); k_whole); intro _ _ wN'; (try dsimp only at wN'); (try k_sweep); (revert wN'; intro _))
  k_with "call builtin:list.extend" => (k_dflt (refine' extend_l ?wF ?wN ?wb ?wne ?wU ?wz ?_; (case wF => k_asm); (case wN => k_asm); (case wb => k_mem); (case wne => first | (simp; done) | (simp; assumption)); (case wU => k_upd); (case wz => (simp only [List.length_append, List.length_reverse, List.length_map, List.length_cons, List.length_nil] at *; omega)); k_whole); intro _ _ wN'; (try dsimp only at wN'); (try k_sweep); (revert wN'; intro _))
  k_with "subscriptTail Name Slice ref ref" => ((with_reducible show wpAny _ _ (subscriptTail _ (PySem.Expr.Slice none none (some _) _) (Value.ref _) (Value.ref _)) _ _ _); k_dflt (refine' rev_l ?wF ?wN ?wl ?wk ?wz ?_ ?ws ?wt; (case wF => k_asm); (case wN => k_asm); (case wl => k_mem); (case wk => exact IsPart.int _ _); (case ws => with_unfolding_all rfl); (case wt => kmk_pure); (case wz => (simp only [List.length_append, List.length_reverse, List.length_map, List.length_cons, List.length_nil] at *; omega))); intro _ _ _ _ wl1; (try k_lt wl1); (try dsimp only); (try k_sweep); (revert wl1; intro _))
  k_with "lt_end" => first | with_reducible assumption | exact PySem.W.ktn_ltOf (by walk_at "alllt")
  k_with "WhlIf" => first
    | (refine whlif_t (by first | rfl | (simp only [bne_iff_ne, ne_eq, beq_iff_eq, decide_eq_true_eq]; first | assumption | omega)) ?_)
    | (refine whlif_f (by first | rfl | (simp only [bne_eq_false_iff_eq, beq_eq_false_iff_ne, ne_eq, decide_eq_false_iff_not]; first | assumption | omega)) ?_)
  k_with "alllt" => first | with_reducible assumption | exact PySem.W.allLt_of (by with_reducible assumption) | with_reducible exact And.right (by assumption) | with_reducible exact And.right (And.right (by assumption)) | with_reducible exact And.right (And.right (And.right (by assumption))) | with_reducible exact And.right (And.right (And.right (And.right (by assumption)))) | with_reducible exact And.right (And.right (And.right (And.right (And.right (by assumption))))) | with_reducible exact And.right (And.right (And.right (And.right (And.right (And.right (by assumption)))))) | with_reducible exact And.right (And.right (And.right (And.right (And.right (And.right (And.right (by assumption))))))) | with_reducible exact And.right (And.right (And.right (And.right (And.right (And.right (And.right (And.right (by assumption))))))))
  k_with "off" => first | with_reducible assumption | exact List.forall_mem_nil _ | exact List.forall_mem_cons.mpr ⟨by first | with_reducible assumption | exact ne_cell2 (by assumption) (by assumption) | exact ne_cell1 (by assumption) (by assumption) | exact ne_cell3 (by assumption) (by assumption) | exact ne_all (by walk_at "alllt") (by assumption) | k_ne, by walk_at "off"⟩ | exact fun p hp => Nat.ne_of_lt (ktn_ltOf (by walk_at "alllt") p hp) | k_all
  k_with "upd" => first | with_reducible assumption | exact Upd.head (by walk_at "off") | exact Upd.tail (by first | with_reducible assumption | exact ne_cell2 (by assumption) (by assumption) | exact ne_cell1 (by assumption) (by assumption) | exact ne_cell3 (by assumption) (by assumption) | exact ne_all (by walk_at "alllt") (by assumption) | k_ne) (by walk_at "upd") | k_upd
  k_with "getAttr ref" => (k_dflt (first
    | (with_reducible refine' gw_num ?wF ?wX ?wN ?wh1 ?wh2 ?_; (case wF => k_asm); (case wX => k_asm); (case wN => k_asm); (case wh1 => k_mem); (case wh2 => k_mem))
    | (with_reducible refine' gw_sort ?wF ?wX ?wN ?wh1 ?wh2 ?_; (case wF => k_asm); (case wX => k_asm); (case wN => k_asm); (case wh1 => k_mem); (case wh2 => k_mem))
    | (with_reducible refine' gw_par ?wF ?wX ?wN ?wh1 ?wh2 ?_; (case wF => k_asm); (case wX => k_asm); (case wN => k_asm); (case wh1 => k_mem); (case wh2 => k_mem))
    | (with_reducible refine' gw_chi ?wF ?wX ?wN ?wh1 ?wh2 ?_; (case wF => k_asm); (case wX => k_asm); (case wN => k_asm); (case wh1 => k_mem); (case wh2 => k_mem))
    | (with_reducible refine' gw_left ?wF ?wX ?wN ?wh1 ?wh2 ?_; (case wF => k_asm); (case wX => k_asm); (case wN => k_asm); (case wh1 => k_mem); (case wh2 => k_mem))
    | (with_reducible refine' gw_top ?wF ?wX ?wN ?wh1 ?wh2 ?_; (case wF => k_asm); (case wX => k_asm); (case wN => k_asm); (case wh1 => k_mem); (case wh2 => k_mem))
    | (with_reducible refine' gw_wid ?wF ?wX ?wN ?wh1 ?wh2 ?_; (case wF => k_asm); (case wX => k_asm); (case wN => k_asm); (case wh1 => k_mem); (case wh2 => k_mem))
    | (with_reducible refine' gw_hei ?wF ?wX ?wN ?wh1 ?wh2 ?_; (case wF => k_asm); (case wX => k_asm); (case wN => k_asm); (case wh1 => k_mem); (case wh2 => k_mem))); k_whole)
  k_with "getAttr ref" => (k_dflt (first
    | (with_reducible refine' gt_windows ?wF ?wX ?wN ?wh1 ?wh2 ?_; (case wF => k_asm); (case wX => k_asm); (case wN => k_asm); (case wh1 => k_mem); (case wh2 => k_mem))
    | (with_reducible refine' gt_lw ?wF ?wX ?wN ?wh1 ?wh2 ?_; (case wF => k_asm); (case wX => k_asm); (case wN => k_asm); (case wh1 => k_mem); (case wh2 => k_mem))
    | (with_reducible refine' gt_lh ?wF ?wX ?wN ?wh1 ?wh2 ?_; (case wF => k_asm); (case wX => k_asm); (case wN => k_asm); (case wh1 => k_mem); (case wh2 => k_mem))
    | (with_reducible refine' gt_root ?wF ?wX ?wN ?wh1 ?wh2 ?_; (case wF => k_asm); (case wX => k_asm); (case wN => k_asm); (case wh1 => k_mem); (case wh2 => k_mem))); k_whole)
  k_with "setAttr ref" => (k_dflt (first
    | (with_reducible refine' sw_wid ?wF ?wX ?wN ?wh1 ?wh2 ?wU ?_; (case wF => k_asm); (case wX => k_asm); (case wN => k_asm); (case wh1 => k_mem); (case wh2 => k_mem); (case wU => walk_at "upd"))
    | (with_reducible refine' sw_hei ?wF ?wX ?wN ?wh1 ?wh2 ?wU ?_; (case wF => k_asm); (case wX => k_asm); (case wN => k_asm); (case wh1 => k_mem); (case wh2 => k_mem); (case wU => walk_at "upd"))
    | (with_reducible refine' sw_left ?wF ?wX ?wN ?wh1 ?wh2 ?wU ?_; (case wF => k_asm); (case wX => k_asm); (case wN => k_asm); (case wh1 => k_mem); (case wh2 => k_mem); (case wU => walk_at "upd"))
    | (with_reducible refine' sw_top ?wF ?wX ?wN ?wh1 ?wh2 ?wU ?_; (case wF => k_asm); (case wX => k_asm); (case wN => k_asm); (case wh1 => k_mem); (case wh2 => k_mem); (case wU => walk_at "upd"))
    | (with_reducible refine' sw_par ?wF ?wX ?wN ?wh1 ?wh2 ?wU ?_; (case wF => k_asm); (case wX => k_asm); (case wN => k_asm); (case wh1 => k_mem); (case wh2 => k_mem); (case wU => walk_at "upd"))); k_whole; intro _ _ _; (try k_sweep))
  trivial

theorem words_11 : True := by
  k_with "call builtin:list.index" => (k_dflt (refine' kf_index ?wN ?wm ?wi ?we ?wc ?wz ?_; (case wN => k_asm); (case wm => k_mem); (case wi => exact kids_ints _); (case we => exact kids_at (by assumption)); (case wc => exact rfl); (case wz => exact kids_size (by (first | assumption | (simp only [List.length_append, List.length_cons, List.length_reverse, List.length_map, List.length_nil] at *; omega))))))
  k_with "subscriptTail Name Slice ref ref" => ((with_reducible show wpAny _ _ (subscriptTail _ (PySem.Expr.Slice _ _ none _) (Value.ref _) (Value.ref _)) _ _ _); k_dflt (refine' kms_slice_lit ?wF ?wN ?wl ?wp ?wq ?we ?_ ?ws ?wt ?wz; (case wF => k_asm); (case wN => k_asm); (case wl => kmk_list); (case wp => kmk_part); (case wq => kmk_part); (case we => first | exact pick_from | exact pick_to); (case ws => with_unfolding_all rfl); (case wt => kmk_pure); (case wz => exact kids_size' (by (first | assumption | (simp only [List.length_append, List.length_cons, List.length_reverse, List.length_map, List.length_nil] at *; omega))))); intro _ _ _ _ wl1; (try k_lt wl1); (try dsimp only); (try k_sweep); (revert wl1; intro _))
  k_with "subscriptTail Subscript" => ((with_reducible show wpAny _ _ (subscriptTail _ (PySem.Expr.Slice _ _ _ _) _ _) _ _ _); k_dflt (refine kba_turn (value' := PySem.Expr.Name (PySem.Str.ofString "_") ⟨0, 0, 0, 0⟩) (fun _ => rfl) ?_))
  k_with "binaryOp Add ref ref" => (k_dflt (refine' kmk_add_lit ?wF ?wN ?wa ?wb ?we ?_ ?wz; (case wF => k_asm); (case wN => k_asm); (case wa => kmk_list); (case wb => kmk_list); (case we => exact rfl); (case wz => (simp only [List.length_append, List.length_cons, List.length_reverse, List.length_map, List.length_nil] at *; refine Nat.le_trans (m := 20) ?_ (by decide); omega))); intro _ _ _ _ wl1; (try k_lt wl1); (try dsimp only); (try k_sweep); (revert wl1; intro _))
  k_with "eval ListComp" => (k_dflt (refine LCg.ListComp_U (F₀ := by k_asm) (by with_unfolding_all rfl) (by decide) (by rfl) (by decide) (by rfl) ?_))
  k_with "CompSrc" => (k_dflt (refine LCg.CompSrc.ledger (by rfl) (by k_asm) (by k_asm) (by k_mem) (by first | exact Nat.le_of_ble_eq_true rfl | (simp only [List.size_toArray, List.length_append, List.length_cons, List.length_reverse, List.length_map, List.length_nil] at *; refine Nat.le_trans (m := 20) ?_ (by decide); omega)) ?_); intro _)
  k_with "call builtin:sum" => ((with_reducible show wpAny _ _ (call (Value.builtin "sum") [Value.ref _]) _ _ _); k_dflt (refine' sumK ?wk0 ?wk1 ?wk2 ?wk3 ?wk4 ?_; (case wk0 => with_unfolding_all rfl); (case wk1 => k_asm); (case wk2 => k_asm); (case wk3 => kmk_list); (case wk4 => assumption); k_whole); intro _ _ _ _ _)
  k_with "k_mem" => first | with_reducible assumption | with_reducible exact List.mem_cons_self | (with_reducible refine List.mem_cons_of_mem _ ?_; k_mem) | exact MemF.mem (by assumption) | exact SubF.mem (by assumption) (by assumption) | assumption
  k_with "upd" => first | exact UpdF.upd (by assumption) | with_reducible assumption | exact Upd.head (by walk_at "off") | exact Upd.tail (by first | with_reducible assumption | exact ne_cell2 (by assumption) (by assumption) | exact ne_cell1 (by assumption) (by assumption) | exact ne_cell3 (by assumption) (by assumption) | exact ne_all (by walk_at "alllt") (by first | assumption | k_mem) | k_ne) (by walk_at "upd") | k_upd
  k_with "off" => first | with_reducible assumption | exact OffF.off (by assumption) | exact List.forall_mem_nil _ | exact List.forall_mem_cons.mpr ⟨by first | with_reducible assumption | exact ne_cell2 (by assumption) (by assumption) | exact ne_cell1 (by assumption) (by assumption) | exact ne_cell3 (by assumption) (by assumption) | exact ne_all (by walk_at "alllt") (by first | assumption | k_mem) | k_ne, by walk_at "off"⟩ | exact fun p hp => Nat.ne_of_lt (ktn_ltOf (by walk_at "alllt") p hp) | k_all
  k_with "tin" => first | with_reducible assumption | exact TreIn.subF (by assumption) (by assumption) | (with_reducible refine TreIn.cons ?_; walk_at "tin") | (with_reducible refine WinIn.cons ?_; walk_at "tin") | (with_reducible refine LeafIn.cons ?_; walk_at "tin") | (with_reducible refine RootIn.cons ?_; walk_at "tin") | exact St.cons (by walk_at "tin")
  k_with "call ref" => ((with_reducible show wpAny _ _ (call (Value.ref 62) _) _ _ _); k_dflt (refine' size_c ?wB ?wF ?wX ?wN ?wT ?whk ?whd ?whu ?whw ?_; (case wB => k_asm); (case wF => k_asm); (case wX => k_asm); (case wN => k_asm); (case wT => k_asm); (case whk => first | exact rfl | assumption); (case whd => ktr_room); (case whu => ktr_units); (case whw => walk_at "tin"); k_whole); intro _ _ _ _ _; (try k_sweep))
  k_with "call ref" => ((with_reducible show wpAny _ _ (call (Value.ref 76) _) _ _ _); k_dflt (refine' place_c ?wB ?wF ?wX ?wN ?wT ?whk ?whd ?whu ?whw ?_; (case wB => k_asm); (case wF => k_asm); (case wX => k_asm); (case wN => k_asm); (case wT => k_asm); (case whk => first | exact rfl | assumption); (case whd => ktr_room); (case whu => ktr_units); (case whw => walk_at "tin"); k_whole); intro _ _ _ _ _; (try k_sweep))
  k_with "call ref" => ((with_reducible show wpAny _ _ (call (Value.ref 154) _) _ _ _); k_dflt (refine' least_leaf_c ?wB ?wF ?wX ?wN ?wT ?whk ?whd ?whu ?wht ?_; (case wB => k_asm); (case wF => k_asm); (case wX => k_asm); (case wN => k_asm); (case wT => k_asm); (case whk => first | exact rfl | assumption); (case whd => ktr_room); (case whu => ktr_units); (case wht => walk_at "tin"); k_whole); intro _ _ _ _ _; (try k_sweep))
  k_with "call ref" => ((with_reducible show wpAny _ _ (call (Value.ref 175) _) _ _ _); k_dflt (refine' along_c ?wB ?wF ?wX ?wN ?wT ?whk ?whd ?whu  ?_; (case wB => k_asm); (case wF => k_asm); (case wX => k_asm); (case wN => k_asm); (case wT => k_asm); (case whk => first | exact rfl | assumption); (case whd => ktr_room); (case whu => ktr_units);  k_whole); intro _ _ _ _ _; (try k_sweep))
  k_with "call ref" => ((with_reducible show wpAny _ _ (call (Value.ref 126) _) _ _ _); k_dflt (refine' window_c ?wB ?wF ?wX ?wN ?wT ?whk ?whd ?whu ?wht ?whv ?_; (case wB => k_asm); (case wF => k_asm); (case wX => k_asm); (case wN => k_asm); (case wT => k_asm); (case whk => first | exact rfl | assumption); (case whd => ktr_room); (case whu => ktr_units); (case wht => walk_at "tin"); (case whv => k_asm); k_whole); intro _ _ _ _; (try k_sweep))
  k_with "call ref" => ((with_reducible show wpAny _ _ (call (Value.ref 203) _) _ _ _); k_dflt (refine' windows_under_c ?wB ?wF ?wX ?wN ?wT ?whk ?whd ?whu ?wht ?whv ?whw ?whc ?_; (case wB => k_asm); (case wF => k_asm); (case wX => k_asm); (case wN => k_asm); (case wT => k_asm); (case whk => first | exact rfl | assumption); (case whd => ktr_room); (case whu => ktr_units); (case wht => walk_at "tin"); (case whv => k_asm); (case whw => walk_at "tin"); (case whc => k_mem); k_whole); intro _ _ _ _ _ _ _ wl1; (try k_lt wl1); (try k_sweep); (revert wl1; intro _))
  k_with "setAttr ref" => (k_dflt (refine' set_dictE ?wF ?wX ?wN ?wI ?whd ?whs ?whp ?wht ?whh ?whl ?we ?wU ?whz ?_; (case wF => k_asm); (case wX => k_asm); (case wN => k_asm); (case wI => (refine' InstAt.of_news ?wN ?wh1 ?wh2; (case wN => k_asm); (case wh1 => k_mem); (case wh2 => k_mem))); (case whd => exact rfl); (case whs => k_is); (case whp => k_is); (case wht => k_is); (case whh => k_is); (case whl => k_get); (case we => k_put); (case wU => walk_at "upd"); (case whz => exact Nat.le_of_ble_eq_true rfl); k_whole); intro _ _ _; (try k_sweep))
  trivial


theorem win_of {P : Params} {news : List (Addr × Obj)} {h₀ h : Heap} {L x d chi ear lat : Addr} {nu so pa le to wi he : Int} {tn ts tp tl tt tw th : Tok} {buf sta poi hsc ded use : Value} {k0 k1 k2 k3 k4 k5 k6 k7 k8 k9 k10 k11 k12 k13 k14 k15 : Tok}
    (N : News h₀ L h ((lat, listOf #[] 0) :: (ear, listOf #[] 0) :: (chi, listOf #[] 0) :: (x, instObj 93 d) :: (d, dictOf [ent P "number" k0 (.int nu tn), ent P "sort" k1 (.int so ts), ent P "parent" k2 (.int pa tp), ent P "children" k3 (.ref chi), ent P "left" k4 (.int le tl), ent P "top" k5 (.int to tt), ent P "width" k6 (.int wi tw), ent P "height" k7 (.int he th), ent P "buffer" k8 buf, ent P "start" k9 sta, ent P "point" k10 poi, ent P "hscroll" k11 hsc, ent P "is_dedicated" k12 ded, ent P "use_time" k13 use, ent P "earlier" k14 (.ref ear), ent P "later" k15 (.ref lat)] 16) :: news)) (b1 : handedIn buf = true) (b2 : handedIn sta = true) (b3 : handedIn poi = true) (b4 : handedIn hsc = true) :
    ∃ W : Win, W.x = x ∧ W.d = d ∧ W.chi = chi ∧ W.ear = ear ∧ W.lat = lat ∧ W.num = nu ∧ W.sort = so ∧ W.par = pa ∧ W.Sh ∧ News h₀ L h ((W.x, instObj 93 W.d) :: (W.d, dictOf (W.es P) 16) :: (W.chi, listOf #[] 0) :: (W.ear, listOf #[] 0) :: (W.lat, listOf #[] 0) :: news) := by
  refine ⟨⟨x, d, chi, ear, lat, nu, so, pa, le, to, wi, he, tn, ts, tp, tl, tt, tw, th, buf, sta, poi, hsc, ded, use, fun i => [k0, k1, k2, k3, k4, k5, k6, k7, k8, k9, k10, k11, k12, k13, k14, k15].getD i 0⟩, rfl, rfl, rfl, rfl, rfl, rfl, rfl, rfl, ⟨b1, b2, b3, b4⟩, ?_⟩
  refine cb_drop N (fun p hp => ?_)
  simp only [List.mem_cons] at hp ⊢
  rcases hp with h | h | h | h | h | h
  · exact .inr (.inr (.inr (.inl h)))
  · exact .inr (.inr (.inr (.inr (.inl h))))
  · exact .inr (.inr (.inl h))
  · exact .inr (.inl h)
  · exact .inl h
  · exact .inr (.inr (.inr (.inr (.inr h))))
set_option maxRecDepth 100000 in
set_option maxHeartbeats 8000000 in
theorem win_c {w : World} {p : Program} {loose : List Str} {mean : ExcName → Option Value} {mg mb : Str → Option Value} {dp un : Nat} {gd : Option (List Code)} {cn : Str} {cs : Scope} {a : Addr} {ccd : Value} {cl : List (Str × Addr)} {outer : List Env} {A₀ : Around} {base h₀ : Heap} {L : Addr} {m : Str → Option Value} {news : List (Addr × Obj)} {s : Shared} {Q E : Value → Shared → Prop} {nu so pa : Int} {tk tk2 tk3 : Tok}
    (B : Below A₀ base outer h₀) (F : Fr h₀ L s.heap m) (X : (Mine.hd.heap_39 w.params).In h₀) (N : News h₀ L s.heap news) (T : Top p loose mean mg mb h₀) (hk : cs.kind = .function) (hd : dp + 20 < recursionLimit) (hu : un + 200 < cLine)
    (hret : ∀ (W : Win) (h9 : Heap) (tk9 : Nat), W.num = nu → W.sort = so → W.par = pa → Fr h₀ L h9 m → News h₀ L h9 ((W.x, instObj 93 W.d) :: (W.d, dictOf (W.es w.params) 16) :: (W.chi, listOf #[] 0) :: (W.ear, listOf #[] 0) :: (W.lat, listOf #[] 0) :: news) → (∀ p ∈ news, p.1 < W.d) → (∀ p ∈ news, p.1 < W.x) → (∀ p ∈ news, p.1 < W.chi) → (∀ p ∈ news, p.1 < W.ear) → (∀ p ∈ news, p.1 < W.lat) → (W.d < W.x ∧ W.x < W.chi ∧ W.chi < W.ear ∧ W.ear < W.lat) → W.Sh → Q (.ref W.x) { s with heap := h9, toks := tk9 }) :
    wpAny (model PySem.Challenge.rw_np0057_01.row.prog w) (ktrTop dp un gd cn cs L a ccd cl outer) (call (.ref 93) [.int nu tk, .int so tk2, .int pa tk3]) Q E s := by
  k_dflt (refine' call_cls ?k1 ?k2 ?k3 ?k4 ?k5 ?k6 ?_; (case k1 => k_asm); (case k2 => k_asm); (case k3 => k_asm); (case k4 => k_is); (case k5 => k_is); (case k6 => k_is); k_whole; intro x' d' h9 F9 N9' l1 l2)
  have N9 : News h₀ L h9 ((x', instObj 93 d') :: (d', dictOf [] 0) :: news) := N9'
  clear N9'
  have hxd : x' ≠ d' := Nat.ne_of_gt l2
  k_dflt (refine' code_def (binds := [(Str.ofString "self", .ref x'), (Str.ofString "number", .int nu tk), (Str.ofString "sort", .int so tk2), (Str.ofString "parent", .int pa tk3)]) ?k1 ?k2 ?k3 ?k4 ?k5 ?kA ?kF ?kK ?k6 ?k7 ?k8 ?k9 ?kB ?_ ?c2 ?c3 ?c4 ?c5; (case kA => exact rfl); (case kF => exact rfl); (case kK => assumption); (case k1 => k_asm); (case k2 => k_asm); (case k3 => k_asm); (case k4 => k_asm); (case k5 => k_asm); (case k6 => k_is); (case k7 => k_is); (case k8 => ktr_room); (case k9 => first | exact BindsTo.of_eq rfl | exact binds_K (by k_in) rfl (by k_is) rfl rfl rfl); (case c5 => decide); (case kB => exact locs rfl); (case c2 => exact rfl); (case c3 => exact rfl); (case c4 => exact rfl); k_whole; intro g' L' h' FG' F' N' B' X' T'; (try dsimp only [List.length_cons, List.length_nil]); (try k_fold))

  repeat' (first | (k_unfold; (try dsimp only)) | ((fail_if_success (with_reducible show wpAny _ _ (exec (Stmt.While _ _ _ _) _) _ _ _)); (fail_if_success (with_reducible show WhlRest _ _ _ _ _ _ _ _ _ _ _)); (fail_if_success (with_reducible show WStep _ _ _ _ _ _)); first | walk1 | (dsimp only; walk1)))
  rename News _ _ _ _ => N8
  rename _ ∧ _ => z1
  have z1' := z1.1
  clear z1
  rename _ ∧ _ => z2
  have z2' := z2.1
  clear z2
  rename _ ∧ _ => z3
  have z3' := z3.1
  refine ex1 (win_of (P := w.params) N8 rfl rfl rfl rfl) ?_
  intro W hX9
  refine an10 hX9 ?_
  clear hX9
  intro e1 e2 e3 e4 e5 e6 e7 e8 eS NW
  rw [← e1]
  have q1 : d' < x' := l2
  have lt1 : ∀ y : Addr, d' ≤ y → ∀ p ∈ news, p.1 < y := fun y hy p hp => Nat.lt_of_lt_of_le (l1 p hp) hy
  refine hret W _ _ e6 e7 e8 (by k_asm) NW (by rw [e2]; exact l1) (by rw [e1]; exact lt1 _ (Nat.le_of_lt l2)) (by rw [e3]; exact lt1 _ (Nat.le_of_lt (Nat.lt_trans l2 z3'))) (by rw [e4]; exact lt1 _ (Nat.le_of_lt (Nat.lt_trans (Nat.lt_trans l2 z3') z2'))) (by rw [e5]; exact lt1 _ (Nat.le_of_lt (Nat.lt_trans (Nat.lt_trans (Nat.lt_trans l2 z3') z2') z1'))) ?_ ?_
  · rw [e1, e2, e3, e4, e5]
    exact ⟨l2, z3', z2', z1'⟩
  · exact eS


end PartD12
section PartD13
theorem words_12 : True := by
  k_with "ktr_units" => (have hcL9 := cLine_is; (try simp only [units_make, units_in1, units_deeper, Around.mark_units, units_caller] at *); (try dsimp only [ktrTop] at *); (try simp only [units_make, units_in1, units_deeper] at *); omega)
  k_with "getAttr ref" => (k_dflt (refine' get_ownE ?wk1 ?wk2 ?wk3 ?wk4 ?wk5 ?wk6 ?wk7 ?wk8 ?wk9 ?_; (case wk1 => k_asm); (case wk2 => k_asm); (case wk3 => (refine' InstAt.of_news ?wN ?wh1 ?wh2; (case wN => k_asm); (case wh1 => k_mem); (case wh2 => k_mem))); (case wk4 => k_is); (case wk5 => k_is); (case wk6 => k_is); (case wk7 => k_is); (case wk8 => k_get); (case wk9 => rfl); k_whole))
  k_with "k_mem" => first | with_reducible assumption | with_reducible exact List.mem_cons_self | (with_reducible refine List.mem_cons_of_mem _ ?_; k_mem) | exact MemF.mem (by with_reducible assumption) | exact SubF.mem (by with_reducible assumption) (by with_reducible assumption)
  k_with "updF" => first | exact PySem.W.UpdF.head (by walk_at "off") | exact PySem.W.UpdF.tail (by first | with_reducible assumption | exact ne_cell2 (by assumption) (by assumption) | exact ne_cell1 (by assumption) (by assumption) | exact ne_cell3 (by assumption) (by assumption) | exact ne_all (by walk_at "alllt") (by first | assumption | k_mem) | k_ne) (by walk_at "updF")
  k_with "setItem ref int" => (k_dflt (refine' kda_set (knd := PySem.intKind _ _) ?wF ?wN ?wU ?wd ?wk ?wz ?_; (case wF => k_asm); (case wN => k_asm); (case wU => walk_at "updF"); (case wd => k_asm); (case wk => exact intKind_is _ _ _ _); (case wz => first | exact Nat.le_of_ble_eq_true rfl | (refine Nat.le_trans (m := 100) ?_ (by decide); omega)); k_whole); intro _ _ _ wN' wt0; (try dsimp only at wN'); (try k_sweep); (revert wN' wt0; intro _ _))
  k_with "getItem ref int" => (k_dflt (refine' dict_getE ?wa ?wb ?wc ?wd ?we ?_; (case wa => k_asm); (case wb => k_mem); (case wc => k_asm); (case wd => exact intKind_is _ _ _ _); (case we => first | with_reducible assumption | exact valueAt_stored' (by first | with_reducible assumption | with_reducible rfl))))
  k_with "subscriptTail" => ((with_reducible show wpAny _ _ (subscriptTail _ _ (Value.ref _) (Value.int _ _)) _ _ _); k_dflt (refine' kdt_tail (knd := PySem.intKind _ _) ?wa ?wb ?wc ?_; (case wa => k_asm); (case wb => k_mem); (case wc => k_asm)))
  k_with "call ref" => ((with_reducible show wpAny _ _ (call (Value.ref 93) _) _ _ _); k_dflt (refine' win_c ?wB ?wF ?wX ?wN ?wT ?whk ?whd ?whu  ?_; (case wB => k_asm); (case wF => k_asm); (case wX => k_asm); (case wN => k_asm); (case wT => k_asm); (case whk => first | exact rfl | assumption); (case whd => ktr_room); (case whu => ktr_units);  k_whole); intro W9w h9w tk9w e1w e2w e3w F9w N9w l1w l2w l3w l4w l5w l6w hsh9w; (try k_lt l1w); (try k_lt l2w); (try k_lt l3w); (try k_lt l4w); (try k_lt l5w); (have l7w := Nat.ne_of_gt l6w.1); (have m1w := chain5 l6w.1 l6w.2.1 l6w.2.2.1 l6w.2.2.2); (try k_sweep))
  k_with "call ref" => ((with_reducible show wpAny _ _ (call (Value.ref 119) _) _ _ _); k_dflt (refine wpAny_call ?_; refine' code_def ?wk1 ?wk2 ?wk3 ?wk4 ?wk5 ?wkA ?wkF ?wkK ?wk6 ?wk7 ?wk8 ?wk9 ?wkB ?_ ?wc2 ?wc3 ?wc4 ?wc5; (case wkA => exact rfl); (case wkF => exact rfl); (case wkK => exact rfl); (case wk1 => k_asm); (case wk2 => k_asm); (case wk3 => k_asm); (case wk4 => k_asm); (case wk5 => k_asm); (case wk6 => k_is); (case wk7 => k_is); (case wk8 => ktr_room); (case wk9 => first | exact BindsTo.of_eq rfl | exact binds_K (by k_in) rfl (by k_is) rfl rfl rfl); (case wc5 => decide); (case wkB => exact locs rfl); (case wc2 => exact rfl); (case wc3 => exact rfl); (case wc4 => exact rfl); k_whole; intro _ _ _ _ _ _ _ _ _; (try dsimp only [List.length_cons, List.length_nil]); (try k_fold)))
  k_with "call ref" => ((with_reducible show wpAny _ _ (call (Value.ref 140) _) _ _ _); k_dflt (refine wpAny_call ?_; refine' code_def ?wk1 ?wk2 ?wk3 ?wk4 ?wk5 ?wkA ?wkF ?wkK ?wk6 ?wk7 ?wk8 ?wk9 ?wkB ?_ ?wc2 ?wc3 ?wc4 ?wc5; (case wkA => exact rfl); (case wkF => exact rfl); (case wkK => exact rfl); (case wk1 => k_asm); (case wk2 => k_asm); (case wk3 => k_asm); (case wk4 => k_asm); (case wk5 => k_asm); (case wk6 => k_is); (case wk7 => k_is); (case wk8 => ktr_room); (case wk9 => first | exact BindsTo.of_eq rfl | exact binds_K (by k_in) rfl (by k_is) rfl rfl rfl); (case wc5 => decide); (case wkB => exact locs rfl); (case wc2 => exact rfl); (case wc3 => exact rfl); (case wc4 => exact rfl); k_whole; intro _ _ _ _ _ _ _ _ _; (try dsimp only [List.length_cons, List.length_nil]); (try k_fold)))
  trivial


theorem tree_pack {P : Params} {news : List (Addr × Obj)} {h₀ h : Heap} {L x d dw y c chi ear lat : Addr} {o : Obj} {nu so pa le to wi he la cl lw lh ro se : Int} {tn ts tp tl tt tw th ua ub uc ud ue uf : Tok} {buf sta poi hsc ded use : Value} {k0 k1 k2 k3 k4 k5 k6 k7 k8 k9 k10 k11 k12 k13 k14 k15 j0 j1 j2 j3 j4 j5 j6 : Tok} (kvs : List (Int × Value))
    (N : News h₀ L h ((y, instObj 93 c) :: (c, dictOf [ent P "number" k0 (.int nu tn), ent P "sort" k1 (.int so ts), ent P "parent" k2 (.int pa tp), ent P "children" k3 (.ref chi), ent P "left" k4 (.int le tl), ent P "top" k5 (.int to tt), ent P "width" k6 (.int wi tw), ent P "height" k7 (.int he th), ent P "buffer" k8 buf, ent P "start" k9 sta, ent P "point" k10 poi, ent P "hscroll" k11 hsc, ent P "is_dedicated" k12 ded, ent P "use_time" k13 use, ent P "earlier" k14 (.ref ear), ent P "later" k15 (.ref lat)] 16) :: (chi, listOf #[] 0) :: (ear, listOf #[] 0) :: (lat, listOf #[] 0) :: (dw, o) :: (x, instObj 164 d) :: (d, dictOf [ent P "windows" j0 (.ref dw), ent P "last" j1 (.int la ua), ent P "clock" j2 (.int cl ub), ent P "least_width" j3 (.int lw uc), ent P "least_height" j4 (.int lh ud), ent P "root" j5 (.int ro ue), ent P "selected" j6 (.int se uf)] 7) :: news)) (b1 : handedIn buf = true) (b2 : handedIn sta = true) (b3 : handedIn poi = true) (b4 : handedIn hsc = true) :
    ∃ (V : Tre) (W : Win), V.x = x ∧ V.d = d ∧ V.wd = dw ∧ V.wo = o ∧ V.kvs = kvs ∧ V.last = la ∧ V.lw = lw ∧ V.lh = lh ∧ V.root = ro ∧ W.x = y ∧ W.d = c ∧ W.chi = chi ∧ W.ear = ear ∧ W.lat = lat ∧ W.num = nu ∧ W.sort = so ∧ W.par = pa ∧ W.wid = wi ∧ W.hei = he ∧ W.Sh ∧
      News h₀ L h ((V.x, instObj 164 V.d) :: (V.d, dictOf (V.es P) 7) :: (V.wd, V.wo) :: (W.x, instObj 93 W.d) :: (W.d, dictOf (W.es P) 16) :: (W.chi, listOf #[] 0) :: (W.ear, listOf #[] 0) :: (W.lat, listOf #[] 0) :: news) := by
  refine ⟨⟨x, d, dw, o, kvs, la, cl, lw, lh, ro, se, ua, ub, uc, ud, ue, uf, fun i => [j0, j1, j2, j3, j4, j5, j6].getD i 0⟩, ⟨y, c, chi, ear, lat, nu, so, pa, le, to, wi, he, tn, ts, tp, tl, tt, tw, th, buf, sta, poi, hsc, ded, use, fun i => [k0, k1, k2, k3, k4, k5, k6, k7, k8, k9, k10, k11, k12, k13, k14, k15].getD i 0⟩, rfl, rfl, rfl, rfl, rfl, rfl, rfl, rfl, rfl, rfl, rfl, rfl, rfl, rfl, rfl, rfl, rfl, rfl, rfl, ⟨b1, b2, b3, b4⟩, ?_⟩
  refine cb_drop N (fun p hp => ?_)
  simp only [List.mem_cons] at hp ⊢
  rcases hp with h | h | h | h | h | h | h | h | h
  · exact .inr (.inr (.inr (.inr (.inr (.inr (.inl h))))))
  · exact .inr (.inr (.inr (.inr (.inr (.inr (.inr (.inl h)))))))
  · exact .inr (.inr (.inr (.inr (.inr (.inl h)))))
  · exact .inl h
  · exact .inr (.inl h)
  · exact .inr (.inr (.inl h))
  · exact .inr (.inr (.inr (.inl h)))
  · exact .inr (.inr (.inr (.inr (.inl h))))
  · exact .inr (.inr (.inr (.inr (.inr (.inr (.inr (.inr h)))))))
set_option maxRecDepth 100000 in
set_option maxHeartbeats 8000000 in
theorem tree_c {w : World} {p : Program} {loose : List Str} {mean : ExcName → Option Value} {mg mb : Str → Option Value} {dp un : Nat} {gd : Option (List Code)} {cn : Str} {cs : Scope} {a : Addr} {ccd : Value} {cl : List (Str × Addr)} {outer : List Env} {A₀ : Around} {base h₀ : Heap} {L : Addr} {m : Str → Option Value} {news : List (Addr × Obj)} {s : Shared} {Q E : Value → Shared → Prop} {wi he : Int} {tk tk2 tk3 tk4 tk5 : Tok}
    (B : Below A₀ base outer h₀) (F : Fr h₀ L s.heap m) (X : (Mine.hd.heap_39 w.params).In h₀) (N : News h₀ L s.heap news) (T : Top p loose mean mg mb h₀) (hk : cs.kind = .function) (hd : dp + 60 < recursionLimit) (hu : un + 600 < cLine)
    (hret : ∀ (V : Tre) (W : Win) (h9 : Heap) (tk9 : Nat), Fr h₀ L h9 m → News h₀ L h9 ((V.x, instObj 164 V.d) :: (V.d, dictOf (V.es w.params) 7) :: (V.wd, V.wo) :: (W.x, instObj 93 W.d) :: (W.d, dictOf (W.es w.params) 16) :: (W.chi, listOf #[] 0) :: (W.ear, listOf #[] 0) :: (W.lat, listOf #[] 0) :: news) → V.wo.IsDictOf (PySem.intKind PySem.Challenge.rw_np0057_01.row.prog w) V.kvs → (V.wd == sysModules) = false → V.kvs = stored [] 1 (.ref W.x) → V.last = 1 → V.lw = 3 → V.lh = 2 → V.root = 1 → W.num = 1 → W.sort = 0 → W.par = 0 → W.wid = wi → W.hei = he → (∀ p ∈ news, p.1 < V.d) → (V.d < V.x ∧ V.x < V.wd ∧ V.wd < W.d ∧ W.d < W.x ∧ W.x < W.chi ∧ W.chi < W.ear ∧ W.ear < W.lat) → W.Sh → Q (.ref V.x) { s with heap := h9, toks := tk9 }) :
    wpAny (model PySem.Challenge.rw_np0057_01.row.prog w) (ktrTop dp un gd cn cs L a ccd cl outer) (call (.ref 164) [.int wi tk, .int he tk2, .int 1 tk3, .int 3 tk4, .int 2 tk5]) Q E s := by
  k_dflt (refine' call_cls ?k1 ?k2 ?k3 ?k4 ?k5 ?k6 ?_; (case k1 => k_asm); (case k2 => k_asm); (case k3 => k_asm); (case k4 => k_is); (case k5 => k_is); (case k6 => k_is); k_whole; intro x' d' h9 F9 N9' l1 l2)
  have N9 : News h₀ L h9 ((x', instObj 164 d') :: (d', dictOf [] 0) :: news) := N9'
  clear N9'
  have hxd : x' ≠ d' := Nat.ne_of_gt l2
  k_dflt (refine' code_def (binds := [(Str.ofString "self", .ref x'), (Str.ofString "width", .int wi tk), (Str.ofString "height", .int he tk2), (Str.ofString "buffer", .int 1 tk3), (Str.ofString "least_width", .int 3 tk4), (Str.ofString "least_height", .int 2 tk5)]) ?k1 ?k2 ?k3 ?k4 ?k5 ?kA ?kF ?kK ?k6 ?k7 ?k8 ?k9 ?kB ?_ ?c2 ?c3 ?c4 ?c5; (case kA => exact rfl); (case kF => exact rfl); (case kK => assumption); (case k1 => k_asm); (case k2 => k_asm); (case k3 => k_asm); (case k4 => k_asm); (case k5 => k_asm); (case k6 => k_is); (case k7 => k_is); (case k8 => ktr_room); (case k9 => first | exact BindsTo.of_eq rfl | exact binds_K (by k_in) rfl (by k_is) rfl rfl rfl); (case c5 => decide); (case kB => exact locs rfl); (case c2 => exact rfl); (case c3 => exact rfl); (case c4 => exact rfl); k_whole; intro g' L' h' FG' F' N' B' X' T'; (try dsimp only [List.length_cons, List.length_nil]); (try k_fold))

  repeat' (first | (k_unfold; (try dsimp only)) | ((fail_if_success (with_reducible show wpAny _ _ (call (Value.ref 140) _) _ _ _)); first | walk1 | (dsimp only; walk1)))
  walk_at "call ref"
  iterate 20 (first | (k_unfold; (try dsimp only)) | walk1 | (dsimp only; walk1))
  dsimp only
  refine' kdt_tail (knd := PySem.intKind _ _) ?a ?b ?c ?_
  (case a => k_asm)
  (case b => k_mem)
  (case c => k_asm)
  refine' dict_getE ?a ?b ?c ?d ?e ?_
  (case a => k_asm)
  (case b => k_mem)
  (case c => k_asm)
  (case d => exact intKind_is _ _ _ _)
  (case e => exact valueAt_stored' (by assumption))
  repeat' (first | (k_unfold; (try dsimp only)) | ((fail_if_success (with_reducible show wpAny _ _ (exec (Stmt.While _ _ _ _) _) _ _ _)); (fail_if_success (with_reducible show WhlRest _ _ _ _ _ _ _ _ _ _ _)); (fail_if_success (with_reducible show WStep _ _ _ _ _ _)); first | walk1 | (dsimp only; walk1)))
  rename News _ _ _ _ => N8
  rename Win.Sh _ => hsh
  rename Win => W9
  rename W9.num = _ => e1
  rename W9.sort = _ => e2
  rename W9.par = _ => e3
  rename W9.d < W9.x ∧ _ => l6
  refine ex2 (tree_pack (P := w.params) (stored [] (0 + 1) (.ref W9.x)) N8 rfl (by with_reducible exact (by assumption : W9.Sh).s) (by with_reducible exact (by assumption : W9.Sh).p) (by with_reducible exact (by assumption : W9.Sh).h)) ?_
  intro V W hX9
  refine an21 hX9 ?_
  clear hX9
  intro f1 f2 f3 f4 f5 f6 f7 f8 f9 f10 f11 f12 f13 f14 f15 f16 f17 f18 f19 fS NV
  have q1 := ltN l2
  rw [← f1]
  refine hret V W _ _ (by k_asm) NV (by rw [f4, f5]; assumption) (by rw [f3]; assumption) (by rw [f5, f10]; rfl) f6 f7 f8 (f9.trans e1) (f15.trans e1) (f16.trans e2) (f17.trans e3) f18 f19 (by rw [f2]; exact l1) ?_ fS
  rw [f1, f2, f3, f10, f11, f12, f13, f14]
  refine ⟨l2, ?_, ?_, l6⟩
  · show @LT.lt Nat instLTNat _ _
    omega
  · show @LT.lt Nat instLTNat _ _
    omega


end PartD13
section PartD14
theorem words_13 : True := by
  k_with_none
  k_with "room" => first | exact rm2 hd rfl | exact rm1 hd rfl | exact rm0 hd | exact rm3 hd rfl | exact Nat.le_of_ble_eq_true rfl
  k_with "units" => first | exact rm2 hu rfl | exact rm1 hu rfl | exact rm0 hu | exact rm3 hu rfl | exact Nat.le_of_ble_eq_true rfl
  k_with "pj" => first | with_reducible assumption | with_reducible exact And.left (by assumption) | with_reducible exact And.left (And.right (by assumption)) | with_reducible exact And.right (by assumption) | with_reducible exact And.left (And.right (And.right (by assumption))) | with_reducible exact And.right (And.right (by assumption)) | with_reducible exact And.left (And.right (And.right (And.right (by assumption)))) | with_reducible exact And.right (And.right (And.right (by assumption))) | with_reducible exact And.left (And.right (And.right (And.right (And.right (by assumption))))) | with_reducible exact And.right (And.right (And.right (And.right (by assumption)))) | with_reducible exact And.left (And.right (And.right (And.right (And.right (And.right (by assumption)))))) | with_reducible exact And.right (And.right (And.right (And.right (And.right (by assumption))))) | with_reducible exact And.left (And.right (And.right (And.right (And.right (And.right (And.right (by assumption))))))) | with_reducible exact And.right (And.right (And.right (And.right (And.right (And.right (by assumption)))))) | with_reducible exact And.left (And.right (And.right (And.right (And.right (And.right (And.right (And.right (by assumption)))))))) | with_reducible exact And.right (And.right (And.right (And.right (And.right (And.right (And.right (by assumption))))))) | with_reducible exact And.left (And.right (And.right (And.right (And.right (And.right (And.right (And.right (And.right (by assumption))))))))) | with_reducible exact And.right (And.right (And.right (And.right (And.right (And.right (And.right (And.right (by assumption)))))))) | with_reducible exact And.left (And.right (And.right (And.right (And.right (And.right (And.right (And.right (And.right (And.right (by assumption)))))))))) | with_reducible exact And.right (And.right (And.right (And.right (And.right (And.right (And.right (And.right (And.right (by assumption))))))))) | with_reducible exact And.left (And.right (And.right (And.right (And.right (And.right (And.right (And.right (And.right (And.right (And.right (by assumption))))))))))) | with_reducible exact And.right (And.right (And.right (And.right (And.right (And.right (And.right (And.right (And.right (And.right (by assumption)))))))))) | with_reducible exact And.left (And.right (And.right (And.right (And.right (And.right (And.right (And.right (And.right (And.right (And.right (And.right (by assumption)))))))))))) | with_reducible exact And.right (And.right (And.right (And.right (And.right (And.right (And.right (And.right (And.right (And.right (And.right (by assumption))))))))))) | with_reducible exact And.left (And.right (And.right (And.right (And.right (And.right (And.right (And.right (And.right (And.right (And.right (And.right (And.right (by assumption))))))))))))) | with_reducible exact And.right (And.right (And.right (And.right (And.right (And.right (And.right (And.right (And.right (And.right (And.right (And.right (by assumption)))))))))))) | with_reducible exact And.left (And.right (And.right (And.right (And.right (And.right (And.right (And.right (And.right (And.right (And.right (And.right (And.right (And.right (by assumption)))))))))))))) | with_reducible exact And.right (And.right (And.right (And.right (And.right (And.right (And.right (And.right (And.right (And.right (And.right (And.right (And.right (by assumption)))))))))))))
  k_with "ne0" => (refine neN ?_; (try dsimp only); first | with_reducible assumption | exact Ne.symm (by with_reducible assumption) | exact Nat.ne_of_lt (by walk_at "pj") | exact Nat.ne_of_gt (by walk_at "pj") | walk_at "ne1")
  k_with "allmem" => first | exact List.forall_mem_nil _ | exact List.forall_mem_cons.mpr ⟨by k_mem, by walk_at "allmem"⟩ | exact all_self | exact all_tail (by walk_at "allmem")
  k_with "subscriptTail" => (k_here; (with_reducible show wpAny _ _ (subscriptTail _ _ (Value.ref _) (Value.int _ _)) _ _ _); k_dflt (refine kdt_tail (knd := PySem.intKind _ _) (by k_asm) (by k_mem) (by k_asm) ?_))
  k_with "getItem ref int" => (k_here; k_dflt (refine kdt_getItem (knd := PySem.intKind _ _) (by k_asm) (by k_mem) (by k_asm) (intKind_is _ _ _ _) (by first | k_asm | exact valueAt_stored) ?_))
  k_with "getMethod ref" => (k_here; (with_reducible show wpAny _ _ (getMethod (Value.ref _) (Str.ofString "get") _) _ _ _); k_dflt (refine kdg_method (knd := PySem.intKind _ _) (by k_asm) (by k_mem) (by k_asm) ?_))
  k_with "call builtin:dict.get" => (k_here; k_dflt (refine kdg_get2 (knd := PySem.intKind _ _) (by k_asm) (by k_mem) (by k_asm) (by k_asm) (intKind_is _ _ _ _) (some _) (by k_asm) ?_); (try dsimp only [Option.getD]))
  k_with "compareOp NotEq ref ref" => (k_here; k_dflt (first | (refine ne_nil_none (by k_asm) (by k_mem) (by k_mem) (by ktr_units) ?_) | (refine ne_nil_some (by k_asm) (by k_mem) (by k_mem) (by first | rfl | simp) (by ktr_units) ?_)))
  k_with "k_mem" => first | with_reducible assumption | with_reducible exact List.mem_cons_self | (with_reducible refine List.mem_cons_of_mem _ ?_; k_mem) | assumption
  k_with "eval Name" => (k_dflt (first
    | (refine' nameX_L ?wF ?wv ?_ ?wa ?wb; (case wF => with_reducible assumption); (case wa => rfl); (case wb => rfl); (case wv => first | rfl | assumption); k_whole)
    | (refine' nameX_K ?wF ?wX ?wT ?we ?_ ?wa ?wb; (case wF => k_asm); (case wX => k_asm); (case wT => k_asm); (case wa => rfl); (case wb => rfl); (case we => k_is); k_whole)))
  k_with "callWith" => first
    | with_reducible refine callWith_method0 ?_
    | (with_reducible refine' callWith_method1 ?_ ?whe ?whp; (case whe => k_dflt exact rfl); (case whp => k_dflt exact rfl))
  k_with "newList" => (k_dflt (refine' newList_K ?wk1 ?wk2 ?_; (case wk1 => k_asm); (case wk2 => k_asm); k_whole); intro _ _ _ _ wl1; (try k_lt wl1); (try k_sweep); (revert wl1; intro _))
  k_with "execs cons" => ((try k_gentoks); (with_reducible refine wpAny_execs_cons ?_); try dsimp only)
  k_with "exec Assign" => first
    | (with_reducible refine' wpAny_Assign_Name ?_ ?whs; (case whs => k_dflt exact rfl))
    | (with_reducible refine plainObj_wpAny_Assign_Attribute ?_ ?_; rotate_left; with_unfolding_all rfl)
  k_with "subscriptTail Attribute" => ((with_reducible show wpAny _ _ (subscriptTail _ (PySem.Expr.Slice _ _ _ _) _ _) _ _ _); k_dflt (refine kba_turn (value' := PySem.Expr.Name (PySem.Str.ofString "_") ⟨0, 0, 0, 0⟩) (fun _ => rfl) ?_))
  k_with "exec While" => (k_dflt (refine whl_start 100 ?_))
  k_with "eval Call Attribute" => (refine MethodCall_ ?_)
  k_with "getAttr ref" => (k_dflt (refine' get_own ?wk1 ?wk2 ?wk3 ?wk4 ?wk5 ?wk6 ?wk7 ?wk8 ?wk9 ?_; (case wk1 => k_asm); (case wk2 => k_asm); (case wk3 => (refine' InstAt.of_news ?wN ?wh1 ?wh2; (case wN => k_asm); (case wh1 => k_mem); (case wh2 => k_mem))); (case wk4 => k_is); (case wk5 => k_is); (case wk6 => k_is); (case wk7 => k_is); (case wk8 => k_get); (case wk9 => rfl); k_whole))
  k_with "tin" => first | with_reducible assumption | (with_reducible refine TreIn.cons ?_; walk_at "tin") | (with_reducible refine WinIn.cons ?_; walk_at "tin") | (with_reducible refine LeafIn.cons ?_; walk_at "tin") | (with_reducible refine RootIn.cons ?_; walk_at "tin") | exact St.cons (by walk_at "tin")
  k_with "UnrEnd" => (k_dflt (first   | (refine' unr_at [] ?wF ?wN ?wo1 ?wo2 ?_; (case wF => k_asm); (case wN => k_asm); (case wo1 => k_all); (case wo2 => k_all))   | (refine' unr_at [_] ?wF ?wN ?wo1 ?wo2 ?_; (case wF => k_asm); (case wN => k_asm); (case wo1 => k_all); (case wo2 => k_all))   | (refine' unr_at [_, _] ?wF ?wN ?wo1 ?wo2 ?_; (case wF => k_asm); (case wN => k_asm); (case wo1 => k_all); (case wo2 => k_all))   | (refine' unr_at [_, _, _] ?wF ?wN ?wo1 ?wo2 ?_; (case wF => k_asm); (case wN => k_asm); (case wo1 => k_all); (case wo2 => k_all))   | (refine' unr_at [_, _, _, _] ?wF ?wN ?wo1 ?wo2 ?_; (case wF => k_asm); (case wN => k_asm); (case wo1 => k_all); (case wo2 => k_all))   | (refine' unr_at [_, _, _, _, _] ?wF ?wN ?wo1 ?wo2 ?_; (case wF => k_asm); (case wN => k_asm); (case wo1 => k_all); (case wo2 => k_all))   | (refine' unr_at [_, _, _, _, _, _] ?wF ?wN ?wo1 ?wo2 ?_; (case wF => k_asm); (case wN => k_asm); (case wo1 => k_all); (case wo2 => k_all))); (try dsimp only [List.cons_append, List.nil_append]); (refine ⟨by k_mem, ?_⟩))
  k_with "pyIter ref" => ((with_reducible show wpAny _ _ (pyIter (Value.ref _)) (fun it s₂ => LoopAtV _ _ _ _ _ _ _ _ _ it s₂) _ _); k_dflt (first | (refine' iter_listUnr rfl ?wF ?wN ?whm ?whc ?whd ?_; (case wF => k_asm); (case wN => k_asm); (case whm => k_mem); (case whc => exact rfl); (case whd => exact rfl)) | (refine' iter_listUnr (vs := [_]) rfl ?wF ?wN ?whm ?whc ?whd ?_; (case wF => k_asm); (case wN => k_asm); (case whm => k_mem); (case whc => exact rfl); (case whd => exact rfl))); intro _ wlI; (try k_lt wlI); (revert wlI; intro _))
  k_with "exec For" => ((with_unfolding_all refine' For_invVF (by k_asm) ?wk1 ?wk2 ?_; (case wk1 => exact rfl); (case wk2 => exact rfl); k_whole))
  k_with "ite" => first
    | with_reducible refine ite_eqp (by first | assumption | omega) ?_ | with_reducible refine ite_eqn (by first | assumption | omega) ?_
    | with_reducible refine ite_nep (by first | assumption | omega) ?_ | with_reducible refine ite_nen (by first | assumption | omega) ?_
    | with_reducible refine ite_decp (by first | assumption | omega) ?_ | with_reducible refine ite_decn (by first | assumption | omega) ?_
  k_with "call builtin:list.pop" => (k_dflt (refine' pop_l ?wF ?wN ?wU ?wz ?_; (case wF => k_asm); (case wN => k_asm); (case wU => walk_at "upd"); (case wz => (simp only [List.length_append, List.length_reverse, List.length_map, List.length_cons, List.length_nil] at *; omega)); k_whole); intro _ _ wN'; (try dsimp only at wN'); (try k_sweep); (revert wN'; intro _))
  k_with "call builtin:list.append" => (k_dflt (refine' append_l ?wF ?wN ?wU ?wz ?_; (case wF => k_asm); (case wN => k_asm); (case wU => walk_at "upd"); (case wz => (simp only [List.length_append, List.length_reverse, List.length_map, List.length_cons, List.length_nil] at *; omega)); k_whole); intro _ _ wN'; (try dsimp only at wN'); (try k_sweep); (revert wN'; intro _))
  k_with "call builtin:list.extend" => (k_dflt (refine' extend_l ?wF ?wN ?wb ?wne ?wU ?wz ?_; (case wF => k_asm); (case wN => k_asm); (case wb => k_mem); (case wne => first | (simp; done) | (simp; assumption)); (case wU => k_upd); (case wz => (simp only [List.length_append, List.length_reverse, List.length_map, List.length_cons, List.length_nil] at *; omega)); k_whole); intro _ _ wN'; (try dsimp only at wN'); (try k_sweep); (revert wN'; intro _))
  k_with "subscriptTail Name Slice ref ref" => ((with_reducible show wpAny _ _ (subscriptTail _ (PySem.Expr.Slice none none (some _) _) (Value.ref _) (Value.ref _)) _ _ _); k_dflt (refine' rev_l ?wF ?wN ?wl ?wk ?wz ?_ ?ws ?wt; (case wF => k_asm); (case wN => k_asm); (case wl => k_mem); (case wk => exact IsPart.int _ _); (case ws => with_unfolding_all rfl); (case wt => kmk_pure); (case wz => (simp only [List.length_append, List.length_reverse, List.length_map, List.length_cons, List.length_nil] at *; omega))); intro _ _ _ _ wl1; (try k_lt wl1); (try dsimp only); (try k_sweep); (revert wl1; intro _))
  k_with "lt_end" => first | with_reducible assumption | exact PySem.W.ktn_ltOf (by walk_at "alllt")
  k_with "WhlIf" => first
    | (refine whlif_t (by first | rfl | (simp only [bne_iff_ne, ne_eq, beq_iff_eq, decide_eq_true_eq]; first | assumption | omega)) ?_)
    | (refine whlif_f (by first | rfl | (simp only [bne_eq_false_iff_eq, beq_eq_false_iff_ne, ne_eq, decide_eq_false_iff_not]; first | assumption | omega)) ?_)
  k_with "alllt" => first | with_reducible assumption | exact PySem.W.allLt_of (by with_reducible assumption) | with_reducible exact And.right (by assumption) | with_reducible exact And.right (And.right (by assumption)) | with_reducible exact And.right (And.right (And.right (by assumption))) | with_reducible exact And.right (And.right (And.right (And.right (by assumption)))) | with_reducible exact And.right (And.right (And.right (And.right (And.right (by assumption))))) | with_reducible exact And.right (And.right (And.right (And.right (And.right (And.right (by assumption)))))) | with_reducible exact And.right (And.right (And.right (And.right (And.right (And.right (And.right (by assumption))))))) | with_reducible exact And.right (And.right (And.right (And.right (And.right (And.right (And.right (And.right (by assumption))))))))
  k_with "off" => first | with_reducible assumption | exact List.forall_mem_nil _ | exact List.forall_mem_cons.mpr ⟨by first | with_reducible assumption | exact ne_cell2 (by assumption) (by assumption) | exact ne_cell1 (by assumption) (by assumption) | exact ne_cell3 (by assumption) (by assumption) | exact ne_all (by walk_at "alllt") (by assumption) | k_ne, by walk_at "off"⟩ | exact fun p hp => Nat.ne_of_lt (ktn_ltOf (by walk_at "alllt") p hp) | k_all
  k_with "upd" => first | with_reducible assumption | exact Upd.head (by walk_at "off") | exact Upd.tail (by first | with_reducible assumption | exact ne_cell2 (by assumption) (by assumption) | exact ne_cell1 (by assumption) (by assumption) | exact ne_cell3 (by assumption) (by assumption) | exact ne_all (by walk_at "alllt") (by assumption) | k_ne) (by walk_at "upd") | k_upd
  k_with "getAttr ref" => (k_dflt (first
    | (with_reducible refine' gw_num ?wF ?wX ?wN ?wh1 ?wh2 ?_; (case wF => k_asm); (case wX => k_asm); (case wN => k_asm); (case wh1 => k_mem); (case wh2 => k_mem))
    | (with_reducible refine' gw_sort ?wF ?wX ?wN ?wh1 ?wh2 ?_; (case wF => k_asm); (case wX => k_asm); (case wN => k_asm); (case wh1 => k_mem); (case wh2 => k_mem))
    | (with_reducible refine' gw_par ?wF ?wX ?wN ?wh1 ?wh2 ?_; (case wF => k_asm); (case wX => k_asm); (case wN => k_asm); (case wh1 => k_mem); (case wh2 => k_mem))
    | (with_reducible refine' gw_chi ?wF ?wX ?wN ?wh1 ?wh2 ?_; (case wF => k_asm); (case wX => k_asm); (case wN => k_asm); (case wh1 => k_mem); (case wh2 => k_mem))
    | (with_reducible refine' gw_left ?wF ?wX ?wN ?wh1 ?wh2 ?_; (case wF => k_asm); (case wX => k_asm); (case wN => k_asm); (case wh1 => k_mem); (case wh2 => k_mem))
    | (with_reducible refine' gw_top ?wF ?wX ?wN ?wh1 ?wh2 ?_; (case wF => k_asm); (case wX => k_asm); (case wN => k_asm); (case wh1 => k_mem); (case wh2 => k_mem))
    | (with_reducible refine' gw_wid ?wF ?wX ?wN ?wh1 ?wh2 ?_; (case wF => k_asm); (case wX => k_asm); (case wN => k_asm); (case wh1 => k_mem); (case wh2 => k_mem))
    | (with_reducible refine' gw_hei ?wF ?wX ?wN ?wh1 ?wh2 ?_; (case wF => k_asm); (case wX => k_asm); (case wN => k_asm); (case wh1 => k_mem); (case wh2 => k_mem))); k_whole)
  k_with "getAttr ref" => (k_dflt (first
    | (with_reducible refine' gt_windows ?wF ?wX ?wN ?wh1 ?wh2 ?_; (case wF => k_asm); (case wX => k_asm); (case wN => k_asm); (case wh1 => k_mem); (case wh2 => k_mem))
    | (with_reducible refine' gt_lw ?wF ?wX ?wN ?wh1 ?wh2 ?_; (case wF => k_asm); (case wX => k_asm); (case wN => k_asm); (case wh1 => k_mem); (case wh2 => k_mem))
    | (with_reducible refine' gt_lh ?wF ?wX ?wN ?wh1 ?wh2 ?_; (case wF => k_asm); (case wX => k_asm); (case wN => k_asm); (case wh1 => k_mem); (case wh2 => k_mem))
    | (with_reducible refine' gt_root ?wF ?wX ?wN ?wh1 ?wh2 ?_; (case wF => k_asm); (case wX => k_asm); (case wN => k_asm); (case wh1 => k_mem); (case wh2 => k_mem))); k_whole)
  k_with "setAttr ref" => (k_dflt (first
    | (with_reducible refine' sw_wid ?wF ?wX ?wN ?wh1 ?wh2 ?wU ?_; (case wF => k_asm); (case wX => k_asm); (case wN => k_asm); (case wh1 => k_mem); (case wh2 => k_mem); (case wU => walk_at "upd"))
    | (with_reducible refine' sw_hei ?wF ?wX ?wN ?wh1 ?wh2 ?wU ?_; (case wF => k_asm); (case wX => k_asm); (case wN => k_asm); (case wh1 => k_mem); (case wh2 => k_mem); (case wU => walk_at "upd"))
    | (with_reducible refine' sw_left ?wF ?wX ?wN ?wh1 ?wh2 ?wU ?_; (case wF => k_asm); (case wX => k_asm); (case wN => k_asm); (case wh1 => k_mem); (case wh2 => k_mem); (case wU => walk_at "upd"))
    | (with_reducible refine' sw_top ?wF ?wX ?wN ?wh1 ?wh2 ?wU ?_; (case wF => k_asm); (case wX => k_asm); (case wN => k_asm); (case wh1 => k_mem); (case wh2 => k_mem); (case wU => walk_at "upd"))
    | (with_reducible refine' sw_par ?wF ?wX ?wN ?wh1 ?wh2 ?wU ?_; (case wF => k_asm); (case wX => k_asm); (case wN => k_asm); (case wh1 => k_mem); (case wh2 => k_mem); (case wU => walk_at "upd"))); k_whole; intro _ _ _; (try k_sweep))
  trivial

theorem words_14 : True := by
  k_with "call builtin:list.index" => (k_dflt (refine' kf_index ?wN ?wm ?wi ?we ?wc ?wz ?_; (case wN => k_asm); (case wm => k_mem); (case wi => exact kids_ints _); (case we => exact kids_at (by assumption)); (case wc => exact rfl); (case wz => exact kids_size (by (first | assumption | (simp only [List.length_append, List.length_cons, List.length_reverse, List.length_map, List.length_nil] at *; omega))))))
  k_with "subscriptTail Name Slice ref ref" => ((with_reducible show wpAny _ _ (subscriptTail _ (PySem.Expr.Slice _ _ none _) (Value.ref _) (Value.ref _)) _ _ _); k_dflt (refine' kms_slice_lit ?wF ?wN ?wl ?wp ?wq ?we ?_ ?ws ?wt ?wz; (case wF => k_asm); (case wN => k_asm); (case wl => kmk_list); (case wp => kmk_part); (case wq => kmk_part); (case we => first | exact pick_from | exact pick_to); (case ws => with_unfolding_all rfl); (case wt => kmk_pure); (case wz => exact kids_size' (by (first | assumption | (simp only [List.length_append, List.length_cons, List.length_reverse, List.length_map, List.length_nil] at *; omega))))); intro _ _ _ _ wl1; (try k_lt wl1); (try dsimp only); (try k_sweep); (revert wl1; intro _))
  k_with "subscriptTail Subscript" => ((with_reducible show wpAny _ _ (subscriptTail _ (PySem.Expr.Slice _ _ _ _) _ _) _ _ _); k_dflt (refine kba_turn (value' := PySem.Expr.Name (PySem.Str.ofString "_") ⟨0, 0, 0, 0⟩) (fun _ => rfl) ?_))
  k_with "binaryOp Add ref ref" => (k_dflt (refine' kmk_add_lit ?wF ?wN ?wa ?wb ?we ?_ ?wz; (case wF => k_asm); (case wN => k_asm); (case wa => kmk_list); (case wb => kmk_list); (case we => exact rfl); (case wz => (simp only [List.length_append, List.length_cons, List.length_reverse, List.length_map, List.length_nil] at *; refine Nat.le_trans (m := 20) ?_ (by decide); omega))); intro _ _ _ _ wl1; (try k_lt wl1); (try dsimp only); (try k_sweep); (revert wl1; intro _))
  k_with "eval ListComp" => (k_dflt (refine LCg.ListComp_U (F₀ := by k_asm) (by with_unfolding_all rfl) (by decide) (by rfl) (by decide) (by rfl) ?_))
  k_with "CompSrc" => (k_dflt (refine LCg.CompSrc.ledger (by rfl) (by k_asm) (by k_asm) (by k_mem) (by first | exact Nat.le_of_ble_eq_true rfl | (simp only [List.size_toArray, List.length_append, List.length_cons, List.length_reverse, List.length_map, List.length_nil] at *; refine Nat.le_trans (m := 20) ?_ (by decide); omega)) ?_); intro _)
  k_with "call builtin:sum" => ((with_reducible show wpAny _ _ (call (Value.builtin "sum") [Value.ref _]) _ _ _); k_dflt (refine' sumK ?wk0 ?wk1 ?wk2 ?wk3 ?wk4 ?_; (case wk0 => with_unfolding_all rfl); (case wk1 => k_asm); (case wk2 => k_asm); (case wk3 => kmk_list); (case wk4 => assumption); k_whole); intro _ _ _ _ _)
  k_with "k_mem" => first | with_reducible assumption | with_reducible exact List.mem_cons_self | (with_reducible refine List.mem_cons_of_mem _ ?_; k_mem) | exact MemF.mem (by assumption) | exact SubF.mem (by assumption) (by assumption) | assumption
  k_with "upd" => first | exact UpdF.upd (by assumption) | with_reducible assumption | exact Upd.head (by walk_at "off") | exact Upd.tail (by first | with_reducible assumption | exact ne_cell2 (by assumption) (by assumption) | exact ne_cell1 (by assumption) (by assumption) | exact ne_cell3 (by assumption) (by assumption) | exact ne_all (by walk_at "alllt") (by first | assumption | k_mem) | k_ne) (by walk_at "upd") | k_upd
  k_with "off" => first | with_reducible assumption | exact OffF.off (by assumption) | exact List.forall_mem_nil _ | exact List.forall_mem_cons.mpr ⟨by first | with_reducible assumption | exact ne_cell2 (by assumption) (by assumption) | exact ne_cell1 (by assumption) (by assumption) | exact ne_cell3 (by assumption) (by assumption) | exact ne_all (by walk_at "alllt") (by first | assumption | k_mem) | k_ne, by walk_at "off"⟩ | exact fun p hp => Nat.ne_of_lt (ktn_ltOf (by walk_at "alllt") p hp) | k_all
  k_with "tin" => first | with_reducible assumption | exact TreIn.subF (by assumption) (by assumption) | (with_reducible refine TreIn.cons ?_; walk_at "tin") | (with_reducible refine WinIn.cons ?_; walk_at "tin") | (with_reducible refine LeafIn.cons ?_; walk_at "tin") | (with_reducible refine RootIn.cons ?_; walk_at "tin") | exact St.cons (by walk_at "tin")
  k_with "call ref" => ((with_reducible show wpAny _ _ (call (Value.ref 62) _) _ _ _); k_dflt (refine' size_c ?wB ?wF ?wX ?wN ?wT ?whk ?whd ?whu ?whw ?_; (case wB => k_asm); (case wF => k_asm); (case wX => k_asm); (case wN => k_asm); (case wT => k_asm); (case whk => first | exact rfl | assumption); (case whd => ktr_room); (case whu => ktr_units); (case whw => walk_at "tin"); k_whole); intro _ _ _ _ _; (try k_sweep))
  k_with "call ref" => ((with_reducible show wpAny _ _ (call (Value.ref 76) _) _ _ _); k_dflt (refine' place_c ?wB ?wF ?wX ?wN ?wT ?whk ?whd ?whu ?whw ?_; (case wB => k_asm); (case wF => k_asm); (case wX => k_asm); (case wN => k_asm); (case wT => k_asm); (case whk => first | exact rfl | assumption); (case whd => ktr_room); (case whu => ktr_units); (case whw => walk_at "tin"); k_whole); intro _ _ _ _ _; (try k_sweep))
  k_with "call ref" => ((with_reducible show wpAny _ _ (call (Value.ref 154) _) _ _ _); k_dflt (refine' least_leaf_c ?wB ?wF ?wX ?wN ?wT ?whk ?whd ?whu ?wht ?_; (case wB => k_asm); (case wF => k_asm); (case wX => k_asm); (case wN => k_asm); (case wT => k_asm); (case whk => first | exact rfl | assumption); (case whd => ktr_room); (case whu => ktr_units); (case wht => walk_at "tin"); k_whole); intro _ _ _ _ _; (try k_sweep))
  k_with "call ref" => ((with_reducible show wpAny _ _ (call (Value.ref 175) _) _ _ _); k_dflt (refine' along_c ?wB ?wF ?wX ?wN ?wT ?whk ?whd ?whu  ?_; (case wB => k_asm); (case wF => k_asm); (case wX => k_asm); (case wN => k_asm); (case wT => k_asm); (case whk => first | exact rfl | assumption); (case whd => ktr_room); (case whu => ktr_units);  k_whole); intro _ _ _ _ _; (try k_sweep))
  k_with "call ref" => ((with_reducible show wpAny _ _ (call (Value.ref 126) _) _ _ _); k_dflt (refine' window_c ?wB ?wF ?wX ?wN ?wT ?whk ?whd ?whu ?wht ?whv ?_; (case wB => k_asm); (case wF => k_asm); (case wX => k_asm); (case wN => k_asm); (case wT => k_asm); (case whk => first | exact rfl | assumption); (case whd => ktr_room); (case whu => ktr_units); (case wht => walk_at "tin"); (case whv => k_asm); k_whole); intro _ _ _ _; (try k_sweep))
  k_with "call ref" => ((with_reducible show wpAny _ _ (call (Value.ref 203) _) _ _ _); k_dflt (refine' windows_under_c ?wB ?wF ?wX ?wN ?wT ?whk ?whd ?whu ?wht ?whv ?whw ?whc ?_; (case wB => k_asm); (case wF => k_asm); (case wX => k_asm); (case wN => k_asm); (case wT => k_asm); (case whk => first | exact rfl | assumption); (case whd => ktr_room); (case whu => ktr_units); (case wht => walk_at "tin"); (case whv => k_asm); (case whw => walk_at "tin"); (case whc => k_mem); k_whole); intro _ _ _ _ _ _ _ wl1; (try k_lt wl1); (try k_sweep); (revert wl1; intro _))
  k_with "call ref" => ((with_reducible show wpAny _ _ (call (Value.ref 215) _) _ _ _); k_dflt (refine' least_size_c ?wB ?wF ?wX ?wN ?wT ?whk ?whd ?whu ?wht ?whv ?whw ?whc ?whs ?_; (case wB => k_asm); (case wF => k_asm); (case wX => k_asm); (case wN => k_asm); (case wT => k_asm); (case whk => first | exact rfl | assumption); (case whd => ktr_room); (case whu => ktr_units); (case wht => walk_at "tin"); (case whv => k_asm); (case whw => walk_at "tin"); (case whc => k_mem); (case whs => assumption); k_whole); intro _ _ _ _ _; (try k_sweep))
  trivial

set_option maxRecDepth 100000 in
set_option maxHeartbeats 8000000 in
theorem lu_leaf_c {w : World} {p : Program} {loose : List Str} {mean : ExcName → Option Value} {mg mb : Str → Option Value} {dp un : Nat} {gd : Option (List Code)} {cn : Str} {cs : Scope} {a : Addr} {ccd : Value} {cl : List (Str × Addr)} {outer : List Env} {A₀ : Around} {base h₀ : Heap} {L : Addr} {m : Str → Option Value} {news : List (Addr × Obj)} {s : Shared} {Q E : Value → Shared → Prop} {V : Tre} {W : Win} {tk : Tok} {rn : Int}
    (B : Below A₀ base outer h₀) (F : Fr h₀ L s.heap m) (X : (Mine.hd.heap_39 w.params).In h₀) (N : News h₀ L s.heap news) (T : Top p loose mean mg mb h₀) (hk : cs.kind = .function) (hd : dp + 10 < recursionLimit) (hu : un + 100 < cLine)
    (ht : TreIn w news V) (hrn : rn = W.num) (hl : LeafIn w news V W)
    (hret : ∀ (l : Addr) (n9 : Nat) (h9 : Heap) (tk9 : Nat), Fr h₀ L h9 m → News h₀ L h9 ((l, listOf #[.int W.num W.tn] n9) :: news) → (∀ p ∈ news, p.1 < l) → Q (.ref l) { s with heap := h9, toks := tk9 }) :
    wpAny (model PySem.Challenge.rw_np0057_01.row.prog w) (ktrTop dp un gd cn cs L a ccd cl outer) (call (.ref 189) [.ref V.x, .int rn tk]) Q E s := by
  refine wpAny_call ?_
  k_dflt (refine' code_def (binds := [(Str.ofString "tree", .ref V.x), (Str.ofString "number", .int rn tk)]) ?k1 ?k2 ?k3 ?k4 ?k5 ?kA ?kF ?kK ?k6 ?k7 ?k8 ?k9 ?kB ?_ ?c2 ?c3 ?c4 ?c5; (case kA => exact rfl); (case kF => exact rfl); (case kK => assumption); (case k1 => exact B); (case k2 => exact F); (case k3 => exact X); (case k4 => exact N); (case k5 => exact T); (case k6 => k_is); (case k7 => k_is); (case k8 => ktr_room); (case k9 => exact BindsTo.of_eq rfl); (case c5 => decide); (case kB => exact locs rfl); (case c2 => exact rfl); (case c3 => exact rfl); (case c4 => exact rfl); k_whole; intro g' L' h' FG' F' N' B' X' T'; (try dsimp only [List.length_cons, List.length_nil]); (try k_fold))
  subst hrn
  obtain ⟨ht1, ht2, ht3, ht4, ht5⟩ := ht
  obtain ⟨⟨hw1, hw2⟩, hv, hs, ⟨cw, hc⟩⟩ := hl
  k_steps
  rename News _ _ _ _ => N8
  refine hret _ _ _ _ (by k_asm) (cb_drop N8 (List.forall_mem_cons.mpr ⟨by k_mem, fun p hp => by k_mem⟩)) (by walk_at "lt_end")

theorem words_15 : True := by
  k_with "call ref" => ((with_reducible show wpAny _ _ (call (Value.ref 189) _) _ _ _); k_dflt (refine' lu_leaf_c ?wB ?wF ?wX ?wN ?wT ?whk ?whd ?whu ?wht ?whrn ?whl ?_; (case wB => k_asm); (case wF => k_asm); (case wX => k_asm); (case wN => k_asm); (case wT => k_asm); (case whk => first | exact rfl | assumption); (case whd => ktr_room); (case whu => ktr_units); (case wht => walk_at "tin"); (case whrn => first | with_reducible rfl | with_reducible assumption); (case whl => walk_at "tin"); k_whole); intro _ _ _ _ _ _ wl1; (try k_lt wl1); (try k_sweep); (revert wl1; intro _))
  trivial

set_option maxRecDepth 100000 in
set_option maxHeartbeats 8000000 in
theorem leaves_leaf_c {w : World} {p : Program} {loose : List Str} {mean : ExcName → Option Value} {mg mb : Str → Option Value} {dp un : Nat} {gd : Option (List Code)} {cn : Str} {cs : Scope} {a : Addr} {ccd : Value} {cl : List (Str × Addr)} {outer : List Env} {A₀ : Around} {base h₀ : Heap} {L : Addr} {m : Str → Option Value} {news : List (Addr × Obj)} {s : Shared} {Q E : Value → Shared → Prop} {V : Tre} {W : Win}
    (B : Below A₀ base outer h₀) (F : Fr h₀ L s.heap m) (X : (Mine.hd.heap_39 w.params).In h₀) (N : News h₀ L s.heap news) (T : Top p loose mean mg mb h₀) (hk : cs.kind = .function) (hd : dp + 30 < recursionLimit) (hu : un + 300 < cLine)
    (ht : TreIn w news V) (hl : LeafIn w news V W) (hroot : V.root = W.num)
    (hret : ∀ (l : Addr) (n9 : Nat) (h9 : Heap) (tk9 : Nat), Fr h₀ L h9 m → News h₀ L h9 ((l, listOf #[.int W.num W.tn] n9) :: news) → (∀ p ∈ news, p.1 < l) → Q (.ref l) { s with heap := h9, toks := tk9 }) :
    wpAny (model PySem.Challenge.rw_np0057_01.row.prog w) (ktrTop dp un gd cn cs L a ccd cl outer) (call (.ref 196) [.ref V.x]) Q E s := by
  refine wpAny_call ?_
  k_dflt (refine' code_def (binds := [(Str.ofString "tree", .ref V.x)]) ?k1 ?k2 ?k3 ?k4 ?k5 ?kA ?kF ?kK ?k6 ?k7 ?k8 ?k9 ?kB ?_ ?c2 ?c3 ?c4 ?c5; (case kA => exact rfl); (case kF => exact rfl); (case kK => assumption); (case k1 => exact B); (case k2 => exact F); (case k3 => exact X); (case k4 => exact N); (case k5 => exact T); (case k6 => k_is); (case k7 => k_is); (case k8 => ktr_room); (case k9 => exact BindsTo.of_eq rfl); (case c5 => decide); (case kB => exact locs rfl); (case c2 => exact rfl); (case c3 => exact rfl); (case c4 => exact rfl); k_whole; intro g' L' h' FG' F' N' B' X' T'; (try dsimp only [List.length_cons, List.length_nil]); (try k_fold))
  have ht0 := ht
  obtain ⟨ht1, ht2, ht3, ht4, ht5⟩ := ht
  repeat' (first | (k_unfold; (try dsimp only)) | ((fail_if_success (with_reducible show wpAny _ _ (exec (Stmt.While _ _ _ _) _) _ _ _)); (fail_if_success (with_reducible show WhlRest _ _ _ _ _ _ _ _ _ _ _)); (fail_if_success (with_reducible show WStep _ _ _ _ _ _)); first | walk1 | (dsimp only; walk1)))
  rename News _ _ _ _ => N8
  exact hret _ _ _ _ (by k_asm) (cb_drop N8 (List.forall_mem_cons.mpr ⟨by k_mem, fun p hp => by k_mem⟩)) (by walk_at "lt_end")

set_option maxRecDepth 100000 in
set_option maxHeartbeats 8000000 in
theorem split_parts_c {w : World} {p : Program} {loose : List Str} {mean : ExcName → Option Value} {mg mb : Str → Option Value} {dp un : Nat} {gd : Option (List Code)} {cn : Str} {cs : Scope} {a : Addr} {ccd : Value} {cl : List (Str × Addr)} {outer : List Env} {A₀ : Around} {base h₀ : Heap} {L : Addr} {m : Str → Option Value} {news : List (Addr × Obj)} {s : Shared} {Q E : Value → Shared → Prop} {V : Tre} {W : Win} {tk tk2 tk3 : Tok} {sz ax : Int}
    (B : Below A₀ base outer h₀) (F : Fr h₀ L s.heap m) (X : (Mine.hd.heap_39 w.params).In h₀) (N : News h₀ L s.heap news) (T : Top p loose mean mg mb h₀) (hk : cs.kind = .function) (hd : dp + 30 < recursionLimit) (hu : un + 300 < cLine)
    (ht : TreIn w news V) (hl : LeafIn w news V W) (h1 : 0 < sz) (h2 : (if ax = 0 then V.lw else V.lh) ≤ sz) (h3 : (if ax = 0 then V.lw else V.lh) ≤ W.size ax - sz)
    (hret : ∀ (l : Addr) (ta tb : Tok) (h9 : Heap) (tk9 : Nat), Fr h₀ L h9 m → News h₀ L h9 ((l, { cls := .type "tuple", data := .seq #[.int (W.size ax - (W.size ax - sz)) ta, .int (W.size ax - sz) tb] }) :: news) → (∀ p ∈ news, p.1 < l) → Q (.ref l) { s with heap := h9, toks := tk9 }) :
    wpAny (model PySem.Challenge.rw_np0057_01.row.prog w) (ktrTop dp un gd cn cs L a ccd cl outer) (call (.ref 265) [.ref V.x, .int W.num tk, .int sz tk2, .int ax tk3]) Q E s := by
  refine wpAny_call ?_
  k_dflt (refine' code_def (binds := [(Str.ofString "tree", .ref V.x), (Str.ofString "number", .int W.num tk), (Str.ofString "size", .int sz tk2), (Str.ofString "axis", .int ax tk3)]) ?k1 ?k2 ?k3 ?k4 ?k5 ?kA ?kF ?kK ?k6 ?k7 ?k8 ?k9 ?kB ?_ ?c2 ?c3 ?c4 ?c5; (case kA => exact rfl); (case kF => exact rfl); (case kK => assumption); (case k1 => exact B); (case k2 => exact F); (case k3 => exact X); (case k4 => exact N); (case k5 => exact T); (case k6 => k_is); (case k7 => k_is); (case k8 => ktr_room); (case k9 => exact BindsTo.of_eq rfl); (case c5 => decide); (case kB => exact locs rfl); (case c2 => exact rfl); (case c3 => exact rfl); (case c4 => exact rfl); k_whole; intro g' L' h' FG' F' N' B' X' T'; (try dsimp only [List.length_cons, List.length_nil]); (try k_fold))
  have ht0 := ht
  obtain ⟨ht1, ht2, ht3, ht4, ht5⟩ := ht
  obtain ⟨hw0, hv, hs, ⟨cw, hc⟩⟩ := hl
  obtain ⟨hw1, hw2⟩ := id hw0
  have g1 : ¬ W.size ax - (W.size ax - sz) < (if ax = 0 then V.lw else V.lh) := by omega
  have g2 : ¬ W.size ax - sz < (if ax = 0 then V.lw else V.lh) := by omega
  repeat' (first | (k_unfold; (try dsimp only)) | ((fail_if_success (with_reducible show wpAny _ _ (exec (Stmt.While _ _ _ _) _) _ _ _)); (fail_if_success (with_reducible show WhlRest _ _ _ _ _ _ _ _ _ _ _)); (fail_if_success (with_reducible show WStep _ _ _ _ _ _)); first | walk1 | (dsimp only; walk1)))
  rename News _ _ _ _ => N8
  exact hret _ _ _ _ _ (by k_asm) (cb_drop N8 (List.forall_mem_cons.mpr ⟨by k_mem, fun p hp => by k_mem⟩)) (by walk_at "lt_end")



end PartD14
section PartD15
theorem words_16 : True := by
  k_with "setAttr ref" => (k_dflt (refine' sw_chi ?wF ?wX ?wN ?wh1 ?wh2 ?wU ?_; (case wF => k_asm); (case wX => k_asm); (case wN => k_asm); (case wh1 => k_mem); (case wh2 => k_mem); (case wU => walk_at "upd"); k_whole); intro _ _ _; (try k_sweep))
  trivial

set_option maxRecDepth 100000 in
set_option maxHeartbeats 8000000 in
theorem joined_c {w : World} {p : Program} {loose : List Str} {mean : ExcName → Option Value} {mg mb : Str → Option Value} {dp un : Nat} {gd : Option (List Code)} {cn : Str} {cs : Scope} {a : Addr} {ccd : Value} {cl : List (Str × Addr)} {outer : List Env} {A₀ : Around} {base h₀ : Heap} {L : Addr} {m : Str → Option Value} {news : List (Addr × Obj)} {s : Shared} {Q E : Value → Shared → Prop} {V : Tre} {R : Win} {kids : List Kid} {bs : List (Addr × Obj)} {tkN : Tok} {rn : Int}
    (B : Below A₀ base outer h₀) (F : Fr h₀ L s.heap m) (X : (Mine.hd.heap_39 w.params).In h₀) (N : News h₀ L s.heap news) (T : Top p loose mean mg mb h₀) (hk : cs.kind = .function) (hd : dp + 30 < recursionLimit) (hu : un + 300 < cLine)
    (Bs : Ba w bs V R kids) (hn : news = led w.params R kids bs) (hrn : rn = R.num)
    (hret : ∀ (h9 : Heap) (tk9 : Nat) (lf : Addr) (n9 : Nat) (kids' : List Kid), Fr h₀ L h9 m → News h₀ L h9 (led w.params (R.setchi lf) kids' ((lf, listOf (kids.map kv).toArray n9) :: bs)) → Kin kids kids' → (∀ z, kids'.map (·.1.size z) = kids.map (·.1.size z)) → (∀ p ∈ news, p.1 < lf) → Q .none { s with heap := h9, toks := tk9 }) :
    wpAny (model PySem.Challenge.rw_np0057_01.row.prog w) (ktrTop dp un gd cn cs L a ccd cl outer) (call (.ref 286) [.ref V.x, .int rn tkN]) Q E s := by
  refine wpAny_call ?_
  k_dflt (refine' code_def (binds := [(Str.ofString "tree", .ref V.x), (Str.ofString "number", .int rn tkN)]) ?k1 ?k2 ?k3 ?k4 ?k5 ?kA ?kF ?kK ?k6 ?k7 ?k8 ?k9 ?kB ?_ ?c2 ?c3 ?c4 ?c5; (case kA => exact rfl); (case kF => exact rfl); (case kK => assumption); (case k1 => exact B); (case k2 => exact F); (case k3 => exact X); (case k4 => exact N); (case k5 => exact T); (case k6 => k_is); (case k7 => k_is); (case k8 => ktr_room); (case k9 => exact BindsTo.of_eq rfl); (case c5 => decide); (case kB => exact locs rfl); (case c2 => exact rfl); (case c3 => exact rfl); (case c4 => exact rfl); k_whole; intro g' L' h' FG' F' N' B' X' T'; (try dsimp only [List.length_cons, List.length_nil]); (try k_fold))
  subst hn hrn
  obtain ⟨hb1, hb2, hb3, hb4, hb5⟩ := Bs.tre
  have htb := Bs.tre
  refine ex1 Bs.fR ?_
  intro nR hX9
  refine an5 hX9 ?_
  clear hX9
  intro hsub hmem hupd hled hkid
  rw [← hled R rfl] at N'
  have hr1 := Bs.rx
  have hvr := Bs.rat
  obtain ⟨cep, hr5⟩ := Bs.rchi
  repeat' (first | (k_unfold; (try dsimp only)) | ((fail_if_success (with_reducible show wpAny _ _ (exec (Stmt.While _ _ _ _) _) _ _ _)); (fail_if_success (with_reducible show WhlRest _ _ _ _ _ _ _ _ _ _ _)); (fail_if_success (with_reducible show WStep _ _ _ _ _ _)); first | walk1 | (dsimp only; walk1)))
  rename News _ _ _ _ => N1
  rename Fr _ _ _ _ => F1
  rename_i lf _ l1f _ I lI
  have hlfR : ∀ p ∈ nR R, p.1 ≠ lf := fun p hp => Nat.ne_of_lt (l1f p hp)
  have hIlf : I ≠ lf := Nat.ne_of_gt lI.1
  have hIR : ∀ p ∈ nR R, p.1 ≠ I := fun p hp => Nat.ne_of_lt (ktn_ltOf lI.2 p hp)
  have hmR : (R.d, dictOf (R.es w.params) 16) ∈ nR R := hmem.mem
  have hsR : ∀ q ∈ bs, q ∈ nR R := fun q hq => hsub.mem hq
  refine lst_ind (fun vs m' nw' => ∃ (don r : List Kid) (nf : Nat), vs = r.map kv ∧ don ++ r = kids ∧ m' (Str.ofString "tree") = some (.ref V.x) ∧ m' (Str.ofString "number") = some (.int R.num tkN) ∧ m' (Str.ofString "here") = some (.ref R.x) ∧ m' (Str.ofString "found") = some (.ref lf) ∧ ∀ p ∈ (lf, listOf (don.map kv).toArray nf) :: nR R, p ∈ nw')
    ⟨[], kids, 0, rfl, rfl, rfl, rfl, rfl, rfl, fun p hp => hp⟩ ?turn ?done
  case turn =>
    clear F1 N1
    intro v r m' nw' hX9 it h tk9 hc F2 N2
    refine ex3 hX9 ?_
    clear hX9
    intro don r' nf hX9
    refine an7 hX9 ?_
    clear hX9
    intro hv hsplit m1 m2 m3 m4 hin
    cases r' with
    | nil => cases hv
    | cons p rs =>
      obtain ⟨W, t⟩ := p
      obtain ⟨rfl, rfl⟩ := List.cons.inj hv
      have hWk : (W, t) ∈ kids := by rw [← hsplit]; simp
      have N3 : News g' L' h ((I, it) :: (lf, listOf (don.map kv).toArray nf) :: nR R) := cb_drop N2 (List.forall_mem_cons.mpr ⟨.head _, fun p hp => .tail _ (hin p hp)⟩)
      have F3 : Fr g' L' h (fun y => if y = Str.ofString "child" then some (kv (W, t)) else m' y) := F2
      clear N2 F2
      have hlen : (don.map kv).length ≤ 9 := by have := congrArg List.length hsplit; have := Bs.len; simp at *; omega
      obtain ⟨c1, c2, c3, c4, cc, c5⟩ := Bs.kx (W, t) hWk
      dsimp only at c1 c2 c3 c5
      have hkd := hkid _ hWk R
      have hso : ¬ W.sort = R.sort := by rw [c3]; rcases Bs.rsort with e | e <;> rw [e] <;> decide
      repeat' (first | (k_unfold; (try dsimp only)) | ((fail_if_success (with_reducible show wpAny _ _ (exec (Stmt.While _ _ _ _) _) _ _ _)); (fail_if_success (with_reducible show WhlRest _ _ _ _ _ _ _ _ _ _ _)); (fail_if_success (with_reducible show WStep _ _ _ _ _ _)); first | walk1 | (dsimp only; walk1)))
      rename News _ _ _ _ => N4
      rename Fr _ _ _ _ => F4
      refine LStep.next ((lf, listOf ((don ++ [(W, t)]).map kv).toArray (nf + 1)) :: nR R) F4 N4 ?_ ?_ (.tail _ (hsR _ hr5)) ⟨don ++ [(W, t)], rs, nf + 1, rfl, by rw [← hsplit]; simp, m1, m2, m3, m4, fun p hp => hp⟩
      · rw [List.map_append]
        exact fun p hp => hp
      · exact List.forall_mem_cons.mpr ⟨Ne.symm hIlf, hIR⟩
  case done =>
    clear F1 N1
    intro m' nw' h tk9 hX9 F2 N2
    refine ex3 hX9 ?_
    clear hX9
    intro don r' nf hX9
    refine an7 hX9 ?_
    clear hX9
    intro hv hsplit m1 m2 m3 m4 hin
    have hr' : r' = [] := List.map_eq_nil_iff.mp hv.symm
    subst hr'
    rw [List.append_nil] at hsplit
    subst hsplit
    have N3 : News g' L' h ((lf, listOf (don.map kv).toArray nf) :: nR R) := cb_drop N2 hin
    have F3 : Fr g' L' h m' := F2
    clear N2 F2
    repeat' (first | (k_unfold; (try dsimp only)) | ((fail_if_success (with_reducible show wpAny _ _ (exec (Stmt.While _ _ _ _) _) _ _ _)); (fail_if_success (with_reducible show WhlRest _ _ _ _ _ _ _ _ _ _ _)); (fail_if_success (with_reducible show WStep _ _ _ _ _ _)); first | walk1 | (dsimp only; walk1)))
    rename News _ _ _ _ => N1
    rename Fr _ _ _ _ => F1
    rename_i J lJ
    have hJlf : J ≠ lf := Nat.ne_of_gt lJ.1
    have hled0 : nR R = led w.params R (don.map id) bs := by rw [List.map_id]; exact hled R rfl
    have hkeyG : ∀ kc, Kin don kc → ∀ p ∈ led w.params R kc bs, p.1 < lf ∧ p.1 ≠ J := fun kc hkin p hp => by
      obtain ⟨q, hq, e⟩ := key_mem (led_keys .refl hkin) hp
      rw [← hled R rfl] at hq
      rw [← e]
      exact ⟨l1f q hq, Nat.ne_of_lt (ktn_ltOf lJ.2 q hq)⟩
    refine lst_ind (fun vs m' nw' => ∃ (d r d' : List Kid), vs = r.map kv ∧ d ++ r = don ∧ Kin d d' ∧ (∀ z, d'.map (·.1.size z) = d.map (·.1.size z)) ∧ m' (Str.ofString "tree") = some (.ref V.x) ∧ m' (Str.ofString "number") = some (.int R.num tkN) ∧ m' (Str.ofString "here") = some (.ref R.x) ∧ m' (Str.ofString "found") = some (.ref lf) ∧ ∀ p ∈ (lf, listOf (don.map kv).toArray nf) :: led w.params R (d' ++ r) bs, p ∈ nw')
      ⟨[], don, [], rfl, rfl, .nil, fun _ => rfl, m1, m2, m3, m4, ?h0⟩ ?turn ?done
    case h0 => rw [List.nil_append, ← hled R rfl]; exact fun p hp => hp
    case turn =>
      clear F1 N1
      intro v r m' nw' hX9 it h tk9 hc F2 N2
      refine ex3 hX9 ?_
      clear hX9
      intro d r' d' hX9
      refine an9 hX9 ?_
      clear hX9
      intro hv hsplit hkd hsz m1 m2 m3 m4 hin
      cases r' with
      | nil => cases hv
      | cons p rs =>
        obtain ⟨W, t⟩ := p
        obtain ⟨rfl, rfl⟩ := List.cons.inj hv
        have hkin : Kin don (d' ++ (W, t) :: rs) := by rw [← hsplit]; exact hkd.append .refl
        have hB := Bs.move .refl hkin
        refine ex1 hB.fK ?_
        intro nK hX9
        refine an5 hX9 ?_
        clear hX9
        intro ksub kmem kupd kled kR
        have N3 : News g' L' h ((J, it) :: (lf, listOf (don.map kv).toArray nf) :: nK W) := cb_drop N2 (List.forall_mem_cons.mpr ⟨.head _, fun p hp => .tail _ (hin p (by rw [kled W rfl] at hp; exact hp))⟩)
        have F3 : Fr g' L' h (fun y => if y = Str.ofString "child" then some (kv (W, t)) else m' y) := F2
        clear N2 F2
        obtain ⟨c1, c2, c3, c4, cc, c5⟩ := hB.kx (W, t) (by simp)
        dsimp only at c1 c2 c3 c4 c5
        have hdW := hkeyG _ hkin (de w.params W) (led_kid (p := (W, t)) (by simp))
        have hlfd : lf ≠ W.d := Nat.ne_of_gt hdW.1
        have hJd : J ≠ W.d := Ne.symm hdW.2
        repeat' (first | (k_unfold; (try dsimp only)) | ((fail_if_success (with_reducible show wpAny _ _ (exec (Stmt.While _ _ _ _) _) _ _ _)); (fail_if_success (with_reducible show WhlRest _ _ _ _ _ _ _ _ _ _ _)); (fail_if_success (with_reducible show WStep _ _ _ _ _ _)); first | walk1 | (dsimp only; walk1)))
        rename News _ _ _ _ => N4
        rename Fr _ _ _ _ => F4
        rw [kled (W.setpar R.num tkN) rfl] at N4
        have hk2 : Kin (d ++ [(W, t)]) (d' ++ [(W.setpar R.num tkN, t)]) := hkd.append (.cons (Same.setpar c4) .nil)
        refine LStep.next ((lf, listOf (don.map kv).toArray nf) :: led w.params R ((d' ++ [(W.setpar R.num tkN, t)]) ++ rs) bs) F4 N4 ?_ ?_ (.head _) ⟨d ++ [(W, t)], rs, d' ++ [(W.setpar R.num tkN, t)], rfl, by rw [← hsplit]; simp, hk2, fun z => ?_, m1, m2, m3, m4, fun p hp => hp⟩
        · rw [List.append_assoc]
          exact fun p hp => hp
        · refine List.forall_mem_cons.mpr ⟨Ne.symm hJlf, fun p hp => (hkeyG _ ?_ p hp).2⟩
          rw [← hsplit, show d ++ (W, t) :: rs = (d ++ [(W, t)]) ++ rs by simp]
          exact hk2.append .refl
        · rw [List.map_append, List.map_append, hsz z]
          rfl
    case done =>
      clear F1 N1
      intro m' nw' h tk9 hX9 F2 N2
      refine ex3 hX9 ?_
      clear hX9
      intro d r' d' hX9
      refine an9 hX9 ?_
      clear hX9
      intro hv hsplit hkd hsz m1 m2 m3 m4 hin
      have hr' : r' = [] := List.map_eq_nil_iff.mp hv.symm
      subst hr'
      rw [List.append_nil] at hsplit
      subst hsplit
      simp only [List.append_nil] at hin
      have hB := Bs.move .refl hkd
      refine ex1 hB.fR ?_
      intro nT hX9
      refine an5 hX9 ?_
      clear hX9
      intro tsub tmem tupd tled tkid
      have N3 : News g' L' h ((lf, listOf (d.map kv).toArray nf) :: nT R) := cb_drop N2 (fun p hp => hin p (by rw [tled R rfl] at hp; exact hp))
      have F3 : Fr g' L' h m' := F2
      have hlfd : lf ≠ R.d := Nat.ne_of_gt (hkeyG _ hkd _ led_root).1
      clear N2 F2
      repeat' (first | (k_unfold; (try dsimp only)) | ((fail_if_success (with_reducible show wpAny _ _ (exec (Stmt.While _ _ _ _) _) _ _ _)); (fail_if_success (with_reducible show WhlRest _ _ _ _ _ _ _ _ _ _ _)); (fail_if_success (with_reducible show WStep _ _ _ _ _ _)); first | walk1 | (dsimp only; walk1)))
      rename News _ _ _ _ => N4
      rw [tled (R.setchi lf) rfl] at N4
      refine hret _ _ lf nf d' (by k_asm) (cb_drop N4 (fun p hp => ?_)) hkd hsz (fun p hp => l1f p (by rw [hled R rfl]; exact hp))
      unfold led at hp ⊢
      simp only [List.mem_cons, List.mem_append] at hp ⊢
      rcases hp with h | h | h | h
      · exact .inr (.inl h)
      · exact .inr (.inr (.inl h))
      · exact .inl h
      · exact .inr (.inr (.inr h))



end PartD15
section PartSpl

abbrev spd (V : Tre) (R : Win) (kids : List Kid) : List Addr := V.d :: V.wd :: R.chi :: R.d :: kids.map (·.1.d)
abbrev spb (P : Params) (V : Tre) (R : Win) (kids : List Kid) (n : Nat) (bs : List (Addr × Obj)) : List (Addr × Obj) := (V.d, dictOf (V.es P) 7) :: (V.wd, V.wo) :: (R.chi, listOf (kids.map kv).toArray n) :: bs
/-- the tree between two splits -/
structure Sp (w : World) (ax : Int) (bs : List (Addr × Obj)) (V : Tre) (R : Win) (kids : List Kid) : Prop where
  vx : (V.x, instObj 164 V.d) ∈ bs
  is : V.wo.IsDictOf (PySem.intKind PySem.Challenge.rw_np0057_01.row.prog w) V.kvs
  lo : (V.wd == sysModules) = false
  rx : (R.x, instObj 93 R.d) ∈ bs
  rat : valueAt V.kvs R.num = some (.ref R.x)
  rax : (if R.sort = 2 then (0 : Int) else 1) = ax
  rsort : R.sort = 1 ∨ R.sort = 2
  rpar : R.par = 0
  root : V.root = R.num
  rnum : R.num = 2
  ne : kids ≠ []
  last : V.last = kids.length + 1
  kl : V.kvs.length ≤ kids.length + 1
  nd : (kids.map (·.1.num)).Nodup
  kx : ∀ p ∈ kids, (p.1.x, instObj 93 p.1.d) ∈ bs ∧ valueAt V.kvs p.1.num = some (.ref p.1.x) ∧ p.1.sort = 0 ∧ p.1.par = R.num ∧ (∃ n, (p.1.chi, listOf #[] n) ∈ bs) ∧ (∃ n, (p.1.ear, listOf #[] n) ∈ bs) ∧ p.1.Sh
  kn : ∀ p ∈ kids, 1 ≤ p.1.num ∧ p.1.num ≤ V.last ∧ p.1.num ≠ 2
  dd : (spd V R kids).Nodup
  off : ∀ q ∈ bs, q.1 ∉ spd V R kids

theorem Sp.ba {w : World} {ax : Int} {bs : List (Addr × Obj)} {V : Tre} {R : Win} {kids : List Kid} {n : Nat} (h : Sp w ax bs V R kids) (hl : kids.length ≤ 10) : Ba w (spb w.params V R kids n bs) V R kids := by
  have dd := h.dd
  have off := h.off
  simp only [List.nodup_cons, List.mem_cons, not_or] at dd off
  obtain ⟨⟨a1, a2, a3, a4⟩, ⟨a5, a6, a7⟩, ⟨a8, a9⟩, a10, a11⟩ := dd
  have mk : ∀ p ∈ kids, ∀ y : Addr, y ∉ kids.map (·.1.d) → y ≠ p.1.d := fun p hp y hy e => hy (e ▸ List.mem_map.mpr ⟨p, hp, rfl⟩)
  have t : ∀ {q : Addr × Obj}, q ∈ bs → q ∈ spb w.params V R kids n bs := fun hq => .tail _ (.tail _ (.tail _ hq))
  exact {
    tre := ⟨t h.vx, .head _, .tail _ (.head _), h.is, h.lo⟩
    rx := t h.rx
    rat := h.rat
    rchi := ⟨n, .tail _ (.tail _ (.head _))⟩
    rsort := h.rsort
    rpar := h.rpar
    rnz := by rw [h.rnum]; decide
    root := h.root
    ne := h.ne
    len := hl
    nd := h.nd
    kx := fun p hp => ⟨t (h.kx p hp).1, (h.kx p hp).2.1, (h.kx p hp).2.2.1, (h.kx p hp).2.2.2.1, (h.kx p hp).2.2.2.2.1.imp fun _ z => t z⟩
    rd := List.forall_mem_cons.mpr ⟨a3, List.forall_mem_cons.mpr ⟨a6, List.forall_mem_cons.mpr ⟨a8, fun q hq => (off q hq).2.2.2.1⟩⟩⟩
    kd := fun p hp => List.forall_mem_cons.mpr ⟨mk p hp _ a4, List.forall_mem_cons.mpr ⟨mk p hp _ a7, List.forall_mem_cons.mpr ⟨mk p hp _ a9, fun q hq => mk p hp _ (off q hq).2.2.2.2⟩⟩⟩
    rk := fun p hp => Ne.symm (mk p hp _ a10)
    dd := a11
    nz := fun p hp => by have := (h.kn p hp).1; omega }

theorem Same.shn {W W' : Win} (s : Same W W') (h : W.Sh) : W'.Sh := ⟨by rw [s.buf]; exact h.b, by rw [s.sta]; exact h.s, by rw [s.poi]; exact h.p, by rw [s.hsc]; exact h.h⟩
theorem Sp.move {w : World} {ax : Int} {bs : List (Addr × Obj)} {V : Tre} {R R' : Win} {kids kids' : List Kid} (h : Sp w ax bs V R kids) (hR : Same R R') (hk : Kin kids kids') : Sp w ax bs V R' kids' where
  vx := h.vx
  is := h.is
  lo := h.lo
  rx := by rw [hR.x, hR.d]; exact h.rx
  rat := by rw [hR.x, hR.num]; exact h.rat
  rax := by rw [hR.sort]; exact h.rax
  rsort := by rw [hR.sort]; exact h.rsort
  rpar := by rw [hR.par]; exact h.rpar
  root := by rw [hR.num]; exact h.root
  rnum := by rw [hR.num]; exact h.rnum
  ne := by intro e; subst e; cases hk; exact h.ne rfl
  last := by rw [hk.length]; exact h.last
  kl := by rw [hk.length]; exact h.kl
  nd := by rw [hk.nums]; exact h.nd
  kx := fun p hp => by
    obtain ⟨q, hq, s, _⟩ := hk.mem hp
    rw [s.x, s.d, s.num, s.sort, s.par, s.chi, hR.num, s.ear]
    have z := h.kx q hq
    exact ⟨z.1, z.2.1, z.2.2.1, z.2.2.2.1, z.2.2.2.2.1, z.2.2.2.2.2.1, s.shn z.2.2.2.2.2.2⟩
  kn := fun p hp => by
    obtain ⟨q, hq, s, _⟩ := hk.mem hp
    rw [s.num]
    exact h.kn q hq
  dd := by
    have := h.dd
    unfold spd at this ⊢
    rw [hk.ds, hR.chi, hR.d]
    exact this
  off := by
    have := h.off
    unfold spd at this ⊢
    rw [hk.ds, hR.chi, hR.d]
    exact this
theorem Sp.chi {w : World} {ax : Int} {bs : List (Addr × Obj)} {V : Tre} {R : Win} {kids : List Kid} {lf : Addr} (h : Sp w ax bs V R kids) (h1 : lf ∉ V.d :: V.wd :: R.d :: kids.map (·.1.d)) (h2 : ∀ q ∈ bs, q.1 ≠ lf) : Sp w ax bs V (R.setchi lf) kids where
  vx := h.vx
  is := h.is
  lo := h.lo
  rx := h.rx
  rat := h.rat
  rax := h.rax
  rsort := h.rsort
  rpar := h.rpar
  root := h.root
  rnum := h.rnum
  ne := h.ne
  last := h.last
  kl := h.kl
  nd := h.nd
  kx := h.kx
  kn := h.kn
  dd := by
    have dd := h.dd
    simp only [List.nodup_cons, List.mem_cons, not_or] at dd h1 ⊢
    obtain ⟨⟨a1, a2, a3, a4⟩, ⟨a5, a6, a7⟩, ⟨a8, a9⟩, a10, a11⟩ := dd
    obtain ⟨b1, b2, b3, b4⟩ := h1
    exact ⟨⟨a1, Ne.symm b1, a3, a4⟩, ⟨Ne.symm b2, a6, a7⟩, ⟨b3, b4⟩, a10, a11⟩
  off := fun q hq => by
    have z := h.off q hq
    simp only [List.mem_cons, not_or] at z ⊢
    exact ⟨z.1, z.2.1, h2 q hq, z.2.2.2⟩
/-- before a split: the root is a leaf, or there is a row already -/
inductive PreS (w : World) (ax : Int) (V : Tre) (W : Win) (t : Tok) (ks : List Kid) (bs : List (Addr × Obj)) : List (Addr × Obj) → Prop
  | first (e : ks = []) (vx : (V.x, instObj 164 V.d) ∈ bs) (is : V.wo.IsDictOf (PySem.intKind PySem.Challenge.rw_np0057_01.row.prog w) V.kvs) (lo : (V.wd == sysModules) = false)
    (wx : (W.x, instObj 93 W.d) ∈ bs) (hv : valueAt V.kvs W.num = some (.ref W.x)) (hp : W.par = 0) (hroot : V.root = W.num) (hl : V.last = 1) (hnum : W.num = 1) (hkl : V.kvs.length ≤ 1) (hso : W.sort = 0)
    (hc : ∃ n, (W.chi, listOf #[] n) ∈ bs) (he : ∃ n, (W.ear, listOf #[] n) ∈ bs) (sh : W.Sh) (hax : ax = 0 ∨ ax = 1)
    (d1 : V.d ≠ V.wd) (d2 : V.d ≠ W.d) (d3 : V.wd ≠ W.d) (off : ∀ p ∈ bs, p.1 ≠ V.d ∧ p.1 ≠ V.wd ∧ p.1 ≠ W.d) : PreS w ax V W t ks bs ((V.d, dictOf (V.es w.params) 7) :: (V.wd, V.wo) :: (W.d, dictOf (W.es w.params) 16) :: bs)
  | next {R : Win} {n : Nat} (S : Sp w ax bs V R (ks ++ [(W, t)])) (hl : (ks ++ [(W, t)]).length ≤ 10) : PreS w ax V W t ks bs (led w.params R (ks ++ [(W, t)]) (spb w.params V R (ks ++ [(W, t)]) n bs))


end PartSpl
section PartD17
set_option maxRecDepth 100000 in
set_option maxHeartbeats 8000000 in
theorem sort_along_c {w : World} {p : Program} {loose : List Str} {mean : ExcName → Option Value} {mg mb : Str → Option Value} {dp un : Nat} {gd : Option (List Code)} {cn : Str} {cs : Scope} {a : Addr} {ccd : Value} {cl : List (Str × Addr)} {outer : List Env} {A₀ : Around} {base h₀ : Heap} {L : Addr} {m : Str → Option Value} {news : List (Addr × Obj)} {s : Shared} {Q E : Value → Shared → Prop} {ax : Int} {tk : Tok}
    (B : Below A₀ base outer h₀) (F : Fr h₀ L s.heap m) (X : (Mine.hd.heap_39 w.params).In h₀) (N : News h₀ L s.heap news) (T : Top p loose mean mg mb h₀) (hk : cs.kind = .function) (hd : dp + 5 < recursionLimit) (hu : un + 60 < cLine)
    
    (hret : ∀ (t9 : Tok) (h9 : Heap) (tk9 : Nat), Fr h₀ L h9 m → News h₀ L h9 news → Q (.int (if ax = 0 then 2 else 1) t9) { s with heap := h9, toks := tk9 }) :
    wpAny (model PySem.Challenge.rw_np0057_01.row.prog w) (ktrTop dp un gd cn cs L a ccd cl outer) (call (.ref 182) [.int ax tk]) Q E s := by
  refine wpAny_call ?_
  k_dflt (refine' code_def (binds := [(Str.ofString "axis", .int ax tk)]) ?k1 ?k2 ?k3 ?k4 ?k5 ?kA ?kF ?kK ?k6 ?k7 ?k8 ?k9 ?kB ?_ ?c2 ?c3 ?c4 ?c5; (case kA => exact rfl); (case kF => exact rfl); (case kK => assumption); (case k1 => exact B); (case k2 => exact F); (case k3 => exact X); (case k4 => exact N); (case k5 => exact T); (case k6 => k_is); (case k7 => k_is); (case k8 => ktr_room); (case k9 => exact BindsTo.of_eq rfl); (case c5 => decide); (case kB => exact locs rfl); (case c2 => exact rfl); (case c3 => exact rfl); (case c4 => exact rfl); k_whole; intro g' L' h' FG' F' N' B' X' T'; (try dsimp only [List.length_cons, List.length_nil]); (try k_fold))
  k_steps
  all_goals cb_end hret


theorem stored_len {kvs : List (Int × Value)} {k : Int} {v : Value} : (stored kvs k v).length ≤ kvs.length + 1 := by
  unfold stored
  split
  · rw [List.length_map]; omega
  · rw [List.length_append]; exact Nat.le_refl _

theorem nodup5 {a b c d e : Addr} (h1 : a ≠ b) (h2 : a ≠ c) (h3 : a ≠ d) (h4 : a ≠ e) (h5 : b ≠ c) (h6 : b ≠ d) (h7 : b ≠ e) (h8 : c ≠ d) (h9 : c ≠ e) (h10 : d ≠ e) : [a, b, c, d, e].Nodup := by
  simp only [List.nodup_cons, List.mem_cons, not_or, List.not_mem_nil, not_false_eq_true, List.nodup_nil, and_true]
  exact ⟨⟨h1, h2, h3, h4⟩, ⟨h5, h6, h7⟩, ⟨h8, h9⟩, h10⟩
theorem off5 {x a b c d e : Addr} (h1 : x ≠ a) (h2 : x ≠ b) (h3 : x ≠ c) (h4 : x ≠ d) (h5 : x ≠ e) : x ∉ [a, b, c, d, e] := by
  simp only [List.mem_cons, not_or, List.not_mem_nil, not_false_eq_true, and_true]
  exact ⟨h1, h2, h3, h4, h5⟩
theorem comb_pack {P : Params} {h₀ h : Heap} {L lf D x d dV wd dW c1 c2 c3 : Addr} {oD o1 o2 o3 ow : Obj} {V' : Tre} {Rw W' : Win} {tkN : Tok} {num : Int} {bs : List (Addr × Obj)} (kvs : List (Int × Value))
    (N : News h₀ L h ((lf, listOf #[.int num tkN] 0) :: (D, oD) :: (x, instObj 93 d) :: (d, dictOf (Rw.es P) 16) :: (c1, o1) :: (c2, o2) :: (c3, o3) :: (dV, dictOf (V'.es P) 7) :: (wd, ow) :: (dW, dictOf (W'.es P) 16) :: bs))
    (e1 : Rw.d = d) (e2 : Rw.chi = lf) (e3 : V'.d = dV) (e4 : V'.wd = wd) (e5 : W'.d = dW) (e6 : W'.num = num) :
    News h₀ L h (led P Rw ([] ++ [(W', tkN)]) (spb P (V'.setwo ow kvs) Rw ([] ++ [(W', tkN)]) 0 ((x, instObj 93 d) :: bs))) := by
  subst e1 e2 e3 e4 e5 e6
  refine cb_drop N fun p hp => ?_
  simp only [led, spb, List.nil_append, List.map_cons, List.map_nil, List.cons_append, List.mem_cons] at hp ⊢
  rcases hp with h | h | h | h | h | h | h
  · exact .inr (.inr (.inr (.inl h)))
  · exact .inr (.inr (.inr (.inr (.inr (.inr (.inr (.inr (.inr (.inl h)))))))))
  · exact .inr (.inr (.inr (.inr (.inr (.inr (.inr (.inl h)))))))
  · exact .inr (.inr (.inr (.inr (.inr (.inr (.inr (.inr (.inl h))))))))
  · exact .inl h
  · exact .inr (.inr (.inl h))
  · exact .inr (.inr (.inr (.inr (.inr (.inr (.inr (.inr (.inr (.inr h)))))))))

theorem words_17 : True := by
  k_with "ktr_units" => (have hcL9 := cLine_is; (try simp only [units_make, units_in1, units_deeper, Around.mark_units, units_caller] at *); (try dsimp only [ktrTop] at *); (try simp only [units_make, units_in1, units_deeper] at *); omega)
  k_with "setAttr ref" => (k_dflt (first
    | ((with_reducible show wpAny _ _ (setAttr _ (Str.ofString "last") _) _ _ _); with_reducible refine' sv_last ?wF ?wX ?wN ?wh1 ?wh2 ?wU ?_; (case wF => k_asm); (case wX => k_asm); (case wN => k_asm); (case wh1 => k_mem); (case wh2 => k_mem); (case wU => walk_at "upd"))
    | ((with_reducible show wpAny _ _ (setAttr _ (Str.ofString "root") _) _ _ _); with_reducible refine' sv_root ?wF ?wX ?wN ?wh1 ?wh2 ?wU ?_; (case wF => k_asm); (case wX => k_asm); (case wN => k_asm); (case wh1 => k_mem); (case wh2 => k_mem); (case wU => walk_at "upd")); k_whole); intro _ _ _; (try k_sweep))
  k_with "getAttr ref" => (k_dflt (with_reducible refine' gt_last ?wF ?wX ?wN ?wh1 ?wh2 ?_; (case wF => k_asm); (case wX => k_asm); (case wN => k_asm); (case wh1 => k_mem); (case wh2 => k_mem); k_whole))
  k_with "k_mem" => first | with_reducible assumption | with_reducible exact List.mem_cons_self | (with_reducible refine List.mem_cons_of_mem _ ?_; k_mem) | exact MemF.mem (by with_reducible assumption) | exact SubF.mem (by with_reducible assumption) (by with_reducible assumption)
  k_with "updF" => first | exact PySem.W.UpdF.head (by walk_at "off") | exact PySem.W.UpdF.tail (by first | with_reducible assumption | exact ne_cell2 (by assumption) (by assumption) | exact ne_cell1 (by assumption) (by assumption) | exact ne_cell3 (by assumption) (by assumption) | exact ne_all (by walk_at "alllt") (by first | assumption | k_mem) | k_ne) (by walk_at "updF")
  k_with "setItem ref int" => (k_dflt (refine' kda_set (knd := PySem.intKind _ _) ?wF ?wN ?wU ?wd ?wk ?wz ?_; (case wF => k_asm); (case wN => k_asm); (case wU => walk_at "updF"); (case wd => k_asm); (case wk => exact intKind_is _ _ _ _); (case wz => first | with_reducible assumption | (refine Nat.le_trans (m := 100) ?_ (by decide); omega)); k_whole); intro _ _ _ wN' wt0; (try dsimp only at wN'); (try k_sweep); (revert wN' wt0; intro _ _))
  k_with "getItem ref int" => (k_dflt (refine' dict_getE ?wa ?wb ?wc ?wd ?we ?_; (case wa => k_asm); (case wb => k_mem); (case wc => k_asm); (case wd => exact intKind_is _ _ _ _); (case we => first | with_reducible assumption | exact valueAt_stored' (by first | with_reducible assumption | with_reducible rfl) | (refine valueAt_stored_ne (by with_reducible assumption) ?_; with_reducible assumption))))
  k_with "subscriptTail" => ((try dsimp only); k_dflt (refine' kdt_tail (knd := PySem.intKind _ _) ?wa ?wb ?wc ?_; (case wa => k_asm); (case wb => k_mem); (case wc => k_asm)))
  k_with "subscriptTail Attribute" => (k_dflt (refine' kdt_tail (knd := PySem.intKind _ _) ?wa ?wb ?wc ?_; (case wa => k_asm); (case wb => k_mem); (case wc => k_asm)))
  k_with "call ref" => ((with_reducible show wpAny _ _ (call (Value.ref 93) _) _ _ _); k_dflt (refine' win_c ?wB ?wF ?wX ?wN ?wT ?whk ?whd ?whu  ?_; (case wB => k_asm); (case wF => k_asm); (case wX => k_asm); (case wN => k_asm); (case wT => k_asm); (case whk => first | exact rfl | assumption); (case whd => ktr_room); (case whu => ktr_units);  k_whole); intro W9w h9w tk9w e1w e2w e3w F9w N9w l1w l2w l3w l4w l5w l6w hsh9w; (try k_lt l1w); (try k_lt l2w); (try k_lt l3w); (try k_lt l4w); (try k_lt l5w); (have l7w := Nat.ne_of_gt l6w.1); (have m1w := chain5 l6w.1 l6w.2.1 l6w.2.2.1 l6w.2.2.2); (try k_sweep))
  k_with "call ref" => ((with_reducible show wpAny _ _ (call (Value.ref 119) _) _ _ _); k_dflt (refine wpAny_call ?_; refine' code_def ?wk1 ?wk2 ?wk3 ?wk4 ?wk5 ?wkA ?wkF ?wkK ?wk6 ?wk7 ?wk8 ?wk9 ?wkB ?_ ?wc2 ?wc3 ?wc4 ?wc5; (case wkA => exact rfl); (case wkF => exact rfl); (case wkK => exact rfl); (case wk1 => k_asm); (case wk2 => k_asm); (case wk3 => k_asm); (case wk4 => k_asm); (case wk5 => k_asm); (case wk6 => k_is); (case wk7 => k_is); (case wk8 => ktr_room); (case wk9 => first | exact BindsTo.of_eq rfl | exact binds_K (by k_in) rfl (by k_is) rfl rfl rfl); (case wc5 => decide); (case wkB => exact locs rfl); (case wc2 => exact rfl); (case wc3 => exact rfl); (case wc4 => exact rfl); k_whole; intro _ _ _ _ _ _ _ _ _; (try dsimp only [List.length_cons, List.length_nil]); (try k_fold)))
  k_with "call ref" => ((with_reducible show wpAny _ _ (call (Value.ref 210) _) _ _ _); k_dflt (refine wpAny_call ?_; refine' code_def ?wk1 ?wk2 ?wk3 ?wk4 ?wk5 ?wkA ?wkF ?wkK ?wk6 ?wk7 ?wk8 ?wk9 ?wkB ?_ ?wc2 ?wc3 ?wc4 ?wc5; (case wkA => exact rfl); (case wkF => exact rfl); (case wkK => exact rfl); (case wk1 => k_asm); (case wk2 => k_asm); (case wk3 => k_asm); (case wk4 => k_asm); (case wk5 => k_asm); (case wk6 => k_is); (case wk7 => k_is); (case wk8 => ktr_room); (case wk9 => first | exact BindsTo.of_eq rfl | exact binds_K (by k_in) rfl (by k_is) rfl rfl rfl); (case wc5 => decide); (case wkB => exact locs rfl); (case wc2 => exact rfl); (case wc3 => exact rfl); (case wc4 => exact rfl); k_whole; intro _ _ _ _ _ _ _ _ _; (try dsimp only [List.length_cons, List.length_nil]); (try k_fold)))
  k_with "call ref" => ((with_reducible show wpAny _ _ (call (Value.ref 182) _) _ _ _); k_dflt (refine' sort_along_c ?wB ?wF ?wX ?wN ?wT ?whk ?whd ?whu  ?_; (case wB => k_asm); (case wF => k_asm); (case wX => k_asm); (case wN => k_asm); (case wT => k_asm); (case whk => first | exact rfl | assumption); (case whd => ktr_room); (case whu => ktr_units);  k_whole); intro _ _ _ _ _; (try k_sweep))
  trivial

set_option maxRecDepth 100000 in
set_option maxHeartbeats 8000000 in
theorem combined_c {w : World} {p : Program} {loose : List Str} {mean : ExcName → Option Value} {mg mb : Str → Option Value} {dp un : Nat} {gd : Option (List Code)} {cn : Str} {cs : Scope} {a : Addr} {ccd : Value} {cl : List (Str × Addr)} {outer : List Env} {A₀ : Around} {base h₀ : Heap} {L : Addr} {m : Str → Option Value} {news : List (Addr × Obj)} {s : Shared} {Q E : Value → Shared → Prop} {V : Tre} {W : Win} {tkN tkA tkk : Tok} {ax : Int} {ks : List Kid} {bs : List (Addr × Obj)}
    (B : Below A₀ base outer h₀) (F : Fr h₀ L s.heap m) (X : (Mine.hd.heap_39 w.params).In h₀) (N : News h₀ L s.heap news) (T : Top p loose mean mg mb h₀) (hk : cs.kind = .function) (hd : dp + 60 < recursionLimit) (hu : un + 600 < cLine)
    (hn : PreS w ax V W tkk ks bs news)
    (hret : ∀ (V' : Tre) (R' W' : Win) (tW : Tok) (bs' : List (Addr × Obj)) (n9 : Nat) (h9 : Heap) (tk9 : Nat) (t9 : Tok), Fr h₀ L h9 m → News h₀ L h9 (led w.params R' (ks ++ [(W', tW)]) (spb w.params V' R' (ks ++ [(W', tW)]) n9 bs')) → Sp w ax bs' V' R' (ks ++ [(W', tW)]) → V'.x = V.x → V'.lw = V.lw → V'.lh = V.lh → W'.num = W.num → W'.wid = W.wid → W'.hei = W.hei → (∀ q ∈ bs, q ∈ bs') → W'.x = W.x → Q (.int R'.num t9) { s with heap := h9, toks := tk9 }) :
    wpAny (model PySem.Challenge.rw_np0057_01.row.prog w) (ktrTop dp un gd cn cs L a ccd cl outer) (call (.ref 272) [.ref V.x, .int W.num tkN, .int ax tkA]) Q E s := by
  refine wpAny_call ?_
  k_dflt (refine' code_def (binds := [(Str.ofString "tree", .ref V.x), (Str.ofString "number", .int W.num tkN), (Str.ofString "axis", .int ax tkA)]) ?k1 ?k2 ?k3 ?k4 ?k5 ?kA ?kF ?kK ?k6 ?k7 ?k8 ?k9 ?kB ?_ ?c2 ?c3 ?c4 ?c5; (case kA => exact rfl); (case kF => exact rfl); (case kK => assumption); (case k1 => exact B); (case k2 => exact F); (case k3 => exact X); (case k4 => exact N); (case k5 => exact T); (case k6 => k_is); (case k7 => k_is); (case k8 => ktr_room); (case k9 => exact BindsTo.of_eq rfl); (case c5 => decide); (case kB => exact locs rfl); (case c2 => exact rfl); (case c3 => exact rfl); (case c4 => exact rfl); k_whole; intro g' L' h' FG' F' N' B' X' T'; (try dsimp only [List.length_cons, List.length_nil]); (try k_fold))
  cases hn with
  | next S hl =>
    rename_i R n
    have St0 : St w (led w.params R (ks ++ [(W, tkk)]) (spb w.params V R (ks ++ [(W, tkk)]) n bs)) V R (ks ++ [(W, tkk)]) := (S.ba hl).st
    have ht0 := St0.tre
    obtain ⟨ht1, ht2, ht3, ht4, ht5⟩ := St0.tre
    have hW : (W, tkk) ∈ ks ++ [(W, tkk)] := by simp
    obtain ⟨⟨hw1, hw2⟩, hv, hs, hc⟩ := St0.leaf _ hW
    obtain ⟨⟨hr1, hr2⟩, hvr, hr4, hr5, hr6, hr7, hr8⟩ := St0.root
    have hp : W.par = R.num := St0.par _ hW
    have hp0 : ¬ W.par = 0 := by rw [hp]; exact St0.rnz
    have hvp : valueAt V.kvs W.par = some (.ref R.x) := by rw [hp]; exact hvr
    have hax := S.rax
    dsimp only at hv hs
    k_steps
    rename News _ _ _ _ => N8
    rw [hp]
    exact hret V R W tkk bs n _ _ _ (by k_asm) (by k_asm) S rfl rfl rfl rfl rfl rfl (fun q hq => hq) rfl
  | first e vx is lo wx hv hp hroot hl hnum hkl hso hc he sh hax d1 d2 d3 off =>
  subst e
  have k1 : ∀ p ∈ bs, p.1 ≠ V.d := fun p h => (off p h).1
  have k2 : ∀ p ∈ bs, p.1 ≠ V.wd := fun p h => (off p h).2.1
  have k3 : ∀ p ∈ bs, p.1 ≠ W.d := fun p h => (off p h).2.2
  have hd1' := Ne.symm d1
  have hd2' := Ne.symm d2
  have hd3' := Ne.symm d3
  have hp0 : ¬ ¬ W.par = 0 := fun z => z hp
  have hne9 : W.num ≠ V.last + 1 := by rw [hnum, hl]; decide
  have hkl2 : V.kvs.length ≤ sizeLine := Nat.le_trans hkl (by decide)
  iterate 14 (first | (k_unfold; (try dsimp only)) | (dsimp only; walk1) | walk1)
  repeat' (first | (k_unfold; (try dsimp only)) | ((fail_if_success (with_reducible show wpAny _ _ (subscriptTail _ _ (Value.ref _) (Value.int _ _)) _ _ _)); first | (dsimp only; walk1) | walk1))
  (try dsimp only)
  refine' kdt_tail (knd := PySem.intKind _ _) ?a ?b ?c ?_
  (case a => k_asm)
  (case b => k_mem)
  (case c => k_asm)
  refine' dict_getE ?a ?b ?c ?d ?e ?_
  (case a => k_asm)
  (case b => k_mem)
  (case c => k_asm)
  (case d => exact intKind_is _ _ _ _)
  (case e => exact valueAt_stored_ne (by assumption) (by assumption))
  repeat' (first | (k_unfold; (try dsimp only)) | ((fail_if_success (with_reducible show wpAny _ _ (subscriptTail _ _ (Value.ref _) (Value.int _ _)) _ _ _)); first | (dsimp only; walk1) | walk1))
  (try dsimp only)
  refine' kdt_tail (knd := PySem.intKind _ _) ?a ?b ?c ?_
  (case a => k_asm)
  (case b => k_mem)
  (case c => k_asm)
  refine' dict_getE ?a ?b ?c ?d ?e ?_
  (case a => k_asm)
  (case b => k_mem)
  (case c => k_asm)
  (case d => exact intKind_is _ _ _ _)
  (case e => exact valueAt_stored' (by assumption))
  repeat' (first | (k_unfold; (try dsimp only)) | ((fail_if_success (with_reducible show wpAny _ _ (subscriptTail _ _ (Value.ref _) (Value.int _ _)) _ _ _)); first | (dsimp only; walk1) | walk1))

  rename News _ _ _ _ => N8
  rename Fr _ _ _ _ => F8
  rename Win => W9
  rename (W9.num = _) => e1
  rename (W9.sort = _) => e2
  rename (W9.d < W9.x ∧ _) => l6
  rename (_ < W9.d ∧ _) => l1
  rename (V.d < W9.x ∧ _) => l2
  rename (Obj.IsDictOf _ _ _) => is'
  rename (_ < _ ∧ W9.x < _ ∧ W9.d < _ ∧ _) => lL
  have NP := comb_pack (stored V.kvs (V.last + 1) (.ref W9.x)) N8 rfl rfl rfl rfl rfl rfl
  have q := hret _ _ _ tkN _ 0 _ (tk + 1) W9.tn F8 NP
  clear N8 NP
  obtain ⟨g1, g2, g3, g4⟩ := l1
  obtain ⟨_, f2, f3, _, _, _, f4, f5, f6, f7⟩ := lL
  have g4 := ktn_ltOf g4
  have f7 := ktn_ltOf f7
  refine q ?_ rfl rfl rfl rfl rfl rfl (fun q hq => .tail _ hq) rfl
  exact {
    vx := .tail _ vx
    is := is'
    lo := lo
    rx := .head _
    rat := valueAt_stored' e1
    rax := by
      show (if W9.sort = 2 then (0 : Int) else 1) = ax
      rw [e2]
      rcases hax with e | e <;> rw [e] <;> decide
    rsort := by
      show W9.sort = 1 ∨ W9.sort = 2
      rw [e2]
      rcases hax with e | e <;> rw [e] <;> decide
    rpar := hp
    root := rfl
    rnum := by
      show W9.num = 2
      rw [e1, hl]
      decide
    ne := fun z => by cases z
    last := by
      show V.last + 1 = _
      rw [hl]
      rfl
    kl := Nat.le_trans stored_len (Nat.succ_le_succ hkl)
    nd := List.nodup_cons.mpr ⟨fun z => (List.not_mem_nil z).elim, List.nodup_nil⟩
    kx := fun p hp => by
      obtain rfl := List.mem_singleton.mp hp
      exact ⟨.tail _ wx, valueAt_stored_ne hne9 hv, hso, rfl, hc.imp fun _ z => .tail _ z, he.imp fun _ z => .tail _ z, ⟨sh.b, sh.s, sh.p, sh.h⟩⟩
    kn := fun p hp => by
      obtain rfl := List.mem_singleton.mp hp
      show 1 ≤ W.num ∧ W.num ≤ V.last + 1 ∧ W.num ≠ 2
      rw [hnum, hl]
      decide
    dd := nodup5 d1 (Nat.ne_of_lt f4) (Nat.ne_of_lt g1) d2 (Nat.ne_of_lt f5) (Nat.ne_of_lt g2) d3 (Nat.ne_of_gt f3) (Nat.ne_of_gt f6) (Nat.ne_of_gt g3)
    off := List.forall_mem_cons.mpr ⟨off5 (Nat.ne_of_gt l2.1) (Nat.ne_of_gt l2.2.1) (Nat.ne_of_lt f2) (Nat.ne_of_gt l6.1) (Nat.ne_of_gt l2.2.2.1), fun q hq => off5 (k1 q hq) (k2 q hq) (Nat.ne_of_lt (f7 q hq)) (Nat.ne_of_lt (g4 q hq)) (k3 q hq)⟩ }



end PartD17
section PartSpl2

def newW (Z W : Win) (ax new : Int) (t1 t2 : Tok) (e : Addr) : Win := ((((((((Z.setwid W.wid W.tw).sethei W.hei W.th).setSize ax new t1).setSize (1 - ax) (if 1 - ax = 0 then W.wid else W.hei) t2).setbuf W.buf).setsta W.sta).setpoi W.poi).sethsc W.hsc).setear e
section
variable {Z W : Win} {ax new : Int} {t1 t2 : Tok} {e : Addr}
theorem newW_x : (newW Z W ax new t1 t2 e).x = Z.x := by unfold newW Win.setSize; split <;> split <;> rfl
theorem newW_d : (newW Z W ax new t1 t2 e).d = Z.d := by unfold newW Win.setSize; split <;> split <;> rfl
theorem newW_chi : (newW Z W ax new t1 t2 e).chi = Z.chi := by unfold newW Win.setSize; split <;> split <;> rfl
theorem newW_num : (newW Z W ax new t1 t2 e).num = Z.num := by unfold newW Win.setSize; split <;> split <;> rfl
theorem newW_sort : (newW Z W ax new t1 t2 e).sort = Z.sort := by unfold newW Win.setSize; split <;> split <;> rfl
theorem newW_par : (newW Z W ax new t1 t2 e).par = Z.par := by unfold newW Win.setSize; split <;> split <;> rfl
theorem newW_ear : (newW Z W ax new t1 t2 e).ear = e := rfl
theorem newW_sh (h : W.Sh) : (newW Z W ax new t1 t2 e).Sh := ⟨h.b, h.s, h.p, h.h⟩
theorem newW_size (h : ax = 0 ∨ ax = 1) : (newW Z W ax new t1 t2 e).size ax = new := by
  unfold newW Win.setSize Win.size
  rcases h with h | h
  · subst h; rfl
  · subst h; rfl
end
theorem Sp.ax01 {w : World} {ax : Int} {bs : List (Addr × Obj)} {V : Tre} {R : Win} {kids : List Kid} (S : Sp w ax bs V R kids) : ax = 0 ∨ ax = 1 := by
  rw [← S.rax]
  split
  · exact .inl rfl
  · exact .inr rfl
theorem fresh_spd {P : Params} {V : Tre} {R W : Win} {ks : List Kid} {t : Tok} {bs rest : List (Addr × Obj)} {y : Addr} (e : rest = de P R :: (ks.map (fun k => de P k.1) ++ bs))
    (l : V.d < y ∧ V.wd < y ∧ R.chi < y ∧ W.d < y ∧ AllLt y rest) : y ∉ spd V R (ks ++ [(W, t)]) ∧ ∀ q ∈ bs, q.1 ≠ y := by
  subst e
  obtain ⟨l1, l2, l3, l4, l5⟩ := l
  have l5 := ktn_ltOf l5
  refine ⟨?_, fun q hq => Nat.ne_of_lt (l5 q (.tail _ (List.mem_append_right _ hq)))⟩
  simp only [List.mem_cons, List.map_append, List.mem_append, List.map_cons, List.map_nil, List.not_mem_nil, or_false, not_or]
  refine ⟨Nat.ne_of_gt l1, Nat.ne_of_gt l2, Nat.ne_of_gt l3, Nat.ne_of_gt (l5 _ (.head _)), fun hm => ?_, Nat.ne_of_gt l4⟩
  obtain ⟨k, hk, e⟩ := List.mem_map.mp hm
  exact Nat.ne_of_gt (l5 _ (.tail _ (List.mem_append_left _ (List.mem_map.mpr ⟨k, hk, rfl⟩)))) e.symm
theorem Sp.add {w : World} {ax : Int} {bs : List (Addr × Obj)} {V V2 : Tre} {R W Nw : Win} {ks : List Kid} {t tN : Tok} {ow : Obj} {c1 c2 : Nat} (S : Sp w ax bs V R (ks ++ [(W, t)]))
    (v1 : V2.x = V.x) (v2 : V2.d = V.d) (v3 : V2.wd = V.wd) (is : ow.IsDictOf (PySem.intKind PySem.Challenge.rw_np0057_01.row.prog w) (stored V.kvs (V.last + 1) (.ref Nw.x))) (v4 : V2.last = V.last + 1) (v5 : V2.root = V.root)
    (n1 : Nw.num = V.last + 1) (n2 : Nw.sort = 0) (n3 : Nw.par = R.num) (sh : Nw.Sh)
    (f1 : Nw.d ∉ spd V R (ks ++ [(W, t)]) ∧ ∀ q ∈ bs, q.1 ≠ Nw.d) (f2 : Nw.x ∉ spd V R (ks ++ [(W, t)]) ∧ ∀ q ∈ bs, q.1 ≠ Nw.x) (f3 : Nw.chi ∉ spd V R (ks ++ [(W, t)]) ∧ ∀ q ∈ bs, q.1 ≠ Nw.chi) (f4 : Nw.ear ∉ spd V R (ks ++ [(W, t)]) ∧ ∀ q ∈ bs, q.1 ≠ Nw.ear)
    (g2 : Nw.x ≠ Nw.d) (g3 : Nw.chi ≠ Nw.d) (g4 : Nw.ear ≠ Nw.d) :
    Sp w ax ((Nw.x, instObj 93 Nw.d) :: (Nw.chi, listOf #[] c1) :: (Nw.ear, listOf #[] c2) :: bs) (V2.setwo ow (stored V.kvs (V.last + 1) (.ref Nw.x))) R (ks ++ (W, t) :: [(Nw, tN)]) := by
  have ek : ks ++ (W, t) :: [(Nw, tN)] = (ks ++ [(W, t)]) ++ [(Nw, tN)] := by simp
  have espd : spd (V2.setwo ow (stored V.kvs (V.last + 1) (.ref Nw.x))) R (ks ++ (W, t) :: [(Nw, tN)]) = spd V R (ks ++ [(W, t)]) ++ [Nw.d] := by
    show V2.d :: V2.wd :: _ = _
    rw [ek, v2, v3, List.map_append]
    rfl
  have tl : ∀ {q : Addr × Obj}, q ∈ bs → q ∈ (Nw.x, instObj 93 Nw.d) :: (Nw.chi, listOf #[] c1) :: (Nw.ear, listOf #[] c2) :: bs := fun hq => .tail _ (.tail _ (.tail _ hq))
  have last := S.last
  rw [List.length_append, List.length_singleton] at last
  have lne : ∀ p ∈ ks ++ [(W, t)], p.1.num ≠ V.last + 1 := fun p hp => by have := (S.kn p hp).2.1; omega
  exact {
    vx := by
      show (V2.x, instObj 164 V2.d) ∈ _
      rw [v1, v2]; exact tl S.vx
    is := is
    lo := by
      show (V2.wd == sysModules) = false
      rw [v3]; exact S.lo
    rx := tl S.rx
    rat := valueAt_stored_ne (by rw [S.rnum]; omega) S.rat
    rax := S.rax
    rsort := S.rsort
    rpar := S.rpar
    root := by
      show V2.root = _
      rw [v5]; exact S.root
    rnum := S.rnum
    ne := by simp
    last := by
      show V2.last = _
      rw [v4, ek, List.length_append, S.last]
      rfl
    kl := by
      rw [ek, List.length_append]
      exact Nat.le_trans stored_len (Nat.succ_le_succ S.kl)
    nd := by
      rw [ek, List.map_append, List.nodup_append]
      refine ⟨S.nd, List.nodup_cons.mpr ⟨List.not_mem_nil, List.nodup_nil⟩, fun x hx y hy e => ?_⟩
      obtain ⟨p, hp, rfl⟩ := List.mem_map.mp hx
      have hy := List.mem_singleton.mp hy
      exact lne p hp (e.trans (hy.trans n1))
    kx := by
      rw [ek]
      intro p hp
      rcases List.mem_append.mp hp with hp | hp
      · obtain ⟨a1, a2, a3, a4, a5, a6, a7⟩ := S.kx p hp
        exact ⟨tl a1, valueAt_stored_ne (lne p hp) a2, a3, a4, a5.imp fun _ z => tl z, a6.imp fun _ z => tl z, a7⟩
      · obtain rfl := List.mem_singleton.mp hp
        exact ⟨.head _, valueAt_stored' n1, n2, n3, ⟨c1, .tail _ (.head _)⟩, ⟨c2, .tail _ (.tail _ (.head _))⟩, sh⟩
    kn := by
      rw [ek]
      intro p hp
      show 1 ≤ p.1.num ∧ p.1.num ≤ V2.last ∧ p.1.num ≠ 2
      rw [v4]
      rcases List.mem_append.mp hp with hp | hp
      · have := S.kn p hp
        exact ⟨this.1, by omega, this.2.2⟩
      · obtain rfl := List.mem_singleton.mp hp
        show 1 ≤ Nw.num ∧ Nw.num ≤ V.last + 1 ∧ Nw.num ≠ 2
        rw [n1]
        omega
    dd := by
      rw [espd, List.nodup_append]
      exact ⟨S.dd, List.nodup_cons.mpr ⟨List.not_mem_nil, List.nodup_nil⟩, fun x hx y hy e => f1.1 (by rw [← List.mem_singleton.mp hy, ← e]; exact hx)⟩
    off := by
      rw [espd]
      have mk : ∀ y : Addr, y ∉ spd V R (ks ++ [(W, t)]) → y ≠ Nw.d → y ∉ spd V R (ks ++ [(W, t)]) ++ [Nw.d] := fun y h1 h2 h => (List.mem_append.mp h).elim h1 fun h => h2 (List.mem_singleton.mp h)
      exact List.forall_mem_cons.mpr ⟨mk _ f2.1 g2, List.forall_mem_cons.mpr ⟨mk _ f3.1 g3, List.forall_mem_cons.mpr ⟨mk _ f4.1 g4, fun q hq => mk _ (S.off q hq) (f1.2 q hq)⟩⟩⟩ }
theorem split_mid {w : World} {h₀ h : Heap} {L D1 D2 D3 dV wd cR l9 dn xn chn : Addr} {c1 c2 n : Nat} {o2 o3 oe ol o9 ow : Obj} {ax new : Int} {bs rest : List (Addr × Obj)} {V V2 : Tre} {R W Z : Win} {ks : List Kid} {t tN t1 t2 : Tok}
    (S : Sp w ax bs V R (ks ++ [(W, t)])) (e : rest = de w.params R :: (ks.map (fun k => de w.params k.1) ++ bs))
    (N : News h₀ L h ((D1, listOf #[] c1) :: (D2, o2) :: (D3, o3) :: (xn, instObj 93 dn) :: (dn, dictOf ((newW Z W ax new t1 t2 D1).es w.params) 16) :: (chn, listOf #[] c2) :: (Z.ear, oe) :: (Z.lat, ol) :: (l9, o9) :: (dV, dictOf (V2.es w.params) 7) :: (wd, ow) :: (cR, listOf ((ks ++ [(W, t)]).map kv ++ [kv (newW Z W ax new t1 t2 D1, tN)]).toArray n) :: (W.d, dictOf (W.es w.params) 16) :: rest))
    (q1 : xn = Z.x) (q2 : dn = Z.d) (q3 : chn = Z.chi) (q4 : dV = V.d) (q5 : wd = V.wd) (q6 : cR = R.chi)
    (v1 : V2.x = V.x) (v2 : V2.d = V.d) (v3 : V2.wd = V.wd) (is : ow.IsDictOf (PySem.intKind PySem.Challenge.rw_np0057_01.row.prog w) (stored V.kvs (V.last + 1) (.ref Z.x))) (v4 : V2.last = V.last + 1) (v5 : V2.root = V.root)
    (n1 : Z.num = V.last + 1) (n2 : Z.sort = 0) (n3 : Z.par = R.num) (sh : W.Sh)
    (f1 : V.d < Z.d ∧ V.wd < Z.d ∧ R.chi < Z.d ∧ W.d < Z.d ∧ AllLt Z.d rest) (f2 : V.d < Z.x ∧ V.wd < Z.x ∧ R.chi < Z.x ∧ W.d < Z.x ∧ AllLt Z.x rest) (f3 : V.d < Z.chi ∧ V.wd < Z.chi ∧ R.chi < Z.chi ∧ W.d < Z.chi ∧ AllLt Z.chi rest) (f4 : V.d < D1 ∧ V.wd < D1 ∧ R.chi < D1 ∧ W.d < D1 ∧ AllLt D1 rest)
    (g2 : Z.d < Z.x) (g3 : Z.d < Z.chi) (g4 : Z.d < D1) :
    ∃ (Nw : Win) (tM : Tok) (bs2 : List (Addr × Obj)) (V3 : Tre), News h₀ L h (led w.params R (ks ++ (W, t) :: [(Nw, tM)]) (spb w.params V3 R (ks ++ (W, t) :: [(Nw, tM)]) n bs2)) ∧ Sp w ax bs2 V3 R (ks ++ (W, t) :: [(Nw, tM)]) ∧ V3.x = V2.x ∧ V3.lw = V2.lw ∧ V3.lh = V2.lh ∧ Nw.x = Z.x ∧ Nw.size ax = new ∧ ∀ q ∈ bs, q ∈ bs2 := by
  subst q1 q2 q3 q4 q5 q6
  have F : ∀ y : Addr, (V.d < y ∧ V.wd < y ∧ R.chi < y ∧ W.d < y ∧ AllLt y rest) → y ∉ spd V R (ks ++ [(W, t)]) ∧ ∀ q ∈ bs, q.1 ≠ y := fun y hy => fresh_spd e hy
  refine ⟨newW Z W ax new t1 t2 D1, tN, _, _, ?_, Sp.add (c1 := c2) (c2 := c1) S v1 v2 v3 (by rw [newW_x]; exact is) v4 v5 (newW_num.trans n1) (newW_sort.trans n2) (newW_par.trans n3) (newW_sh sh) (by rw [newW_d]; exact F _ f1) (by rw [newW_x]; exact F _ f2) (by rw [newW_chi]; exact F _ f3) (by rw [newW_ear]; exact F _ f4)
    (by rw [newW_x, newW_d]; exact Nat.ne_of_gt g2) (by rw [newW_chi, newW_d]; exact Nat.ne_of_gt g3) (by rw [newW_ear, newW_d]; exact Nat.ne_of_gt g4), rfl, rfl, rfl, newW_x, newW_size S.ax01, fun q hq => .tail _ (.tail _ (.tail _ hq))⟩
  subst e
  refine cb_drop N fun p hp => ?_
  simp only [led, spb, List.map_append, List.map_cons, List.map_nil, List.mem_append, List.mem_cons, List.not_mem_nil, or_false, List.append_assoc, List.cons_append, List.nil_append, newW_x, newW_d, newW_chi, newW_ear, v2, v3] at hp ⊢
  rcases hp with h | h | h | h | h | h | h | h | h | h | h
  · exact .inr (.inr (.inr (.inr (.inr (.inr (.inr (.inr (.inr (.inr (.inr (.inr (.inr (.inl h)))))))))))))
  · exact .inr (.inr (.inr (.inr (.inr (.inr (.inr (.inr (.inr (.inr (.inr (.inr (.inr (.inr (.inl h))))))))))))))
  · exact .inr (.inr (.inr (.inr (.inr (.inr (.inr (.inr (.inr (.inr (.inr (.inr (.inl h))))))))))))
  · exact .inr (.inr (.inr (.inr (.inl (h.trans (congrArg (fun y => (y, _)) newW_d))))))
  · exact .inr (.inr (.inr (.inr (.inr (.inr (.inr (.inr (.inr (.inl h)))))))))
  · exact .inr (.inr (.inr (.inr (.inr (.inr (.inr (.inr (.inr (.inr (.inl h))))))))))
  · exact .inr (.inr (.inr (.inr (.inr (.inr (.inr (.inr (.inr (.inr (.inr (.inl h)))))))))))
  · exact .inr (.inr (.inr (.inl h)))
  · exact .inr (.inr (.inr (.inr (.inr (.inl h)))))
  · exact .inl h
  · exact .inr (.inr (.inr (.inr (.inr (.inr (.inr (.inr (.inr (.inr (.inr (.inr (.inr (.inr (.inr (h)))))))))))))))
theorem spb_drop {P : Params} {h₀ h : Heap} {L lf : Addr} {V : Tre} {R0 R : Win} {kids k0 k1 : List Kid} {n n2 : Nat} {bs : List (Addr × Obj)} (hl : R.chi = lf) (hk : kids.map kv = k0.map kv)
    (N : News h₀ L h (led P R kids ((lf, listOf (k0.map kv).toArray n2) :: spb P V R0 k1 n bs))) : News h₀ L h (led P R kids (spb P V R kids n2 bs)) := by
  subst hl
  rw [← hk] at N
  refine cb_drop N fun p hp => ?_
  simp only [led, spb, List.mem_append, List.mem_cons] at hp ⊢
  rcases hp with h | h | h | h | h | h
  · exact .inl h
  · exact .inr (.inl h)
  · exact .inr (.inr (.inr (.inl h)))
  · exact .inr (.inr (.inr (.inr (.inl h))))
  · exact .inr (.inr (.inl h))
  · exact .inr (.inr (.inr (.inr (.inr (.inr h)))))
theorem lf_fresh {P : Params} {lf : Addr} {V : Tre} {R R0 : Win} {kids k0 k4 : List Kid} {n : Nat} {bs : List (Addr × Obj)} (h : ∀ p ∈ led P R kids (spb P V R0 k0 n bs), p.1 < lf) (hd : k4.map (·.1.d) = kids.map (·.1.d)) :
    (lf ∉ V.d :: V.wd :: R.d :: k4.map (·.1.d)) ∧ ∀ q ∈ bs, q.1 ≠ lf := by
  have hv := h (V.d, dictOf (V.es P) 7) (led_base (.head _))
  have hwd := h (V.wd, V.wo) (led_base (.tail _ (.head _)))
  have hR := h _ led_root
  have hk : ∀ k ∈ kids, k.1.d < lf := fun k hk => h _ (led_kid hk)
  refine ⟨?_, fun q hq => Nat.ne_of_lt (h q (led_base (.tail _ (.tail _ (.tail _ hq)))))⟩
  rw [hd]
  simp only [List.mem_cons, not_or]
  refine ⟨Nat.ne_of_gt hv, Nat.ne_of_gt hwd, Nat.ne_of_gt hR, fun hm => ?_⟩
  obtain ⟨k, hkk, e⟩ := List.mem_map.mp hm
  exact Nat.ne_of_lt (hk k hkk) e
theorem Kin.snoc {W : Win} {t : Tok} {a kc : List Kid} (h : Kin (a ++ [(W, t)]) kc) : ∃ a' W', kc = a' ++ [(W', t)] ∧ Kin a a' ∧ Same W W' := by
  induction a generalizing kc with
  | nil =>
    rw [List.nil_append] at h
    cases h with
    | cons s r =>
      cases r
      exact ⟨[], _, rfl, .nil, s⟩
  | cons p r ih =>
    rw [List.cons_append] at h
    cases h with
    | cons s k =>
      obtain ⟨a', W', rfl, k, s'⟩ := ih k
      exact ⟨_, _, rfl, .cons s k, s'⟩


end PartSpl2
section PartD18
theorem words_18 : True := by
  k_with "setAttr ref" => (k_dflt (first
    | (with_reducible refine' sw_buf ?wF ?wX ?wN ?wh1 ?wh2 ?wU ?_; (case wF => k_asm); (case wX => k_asm); (case wN => k_asm); (case wh1 => k_mem); (case wh2 => k_mem); (case wU => walk_at "upd"))
    | (with_reducible refine' sw_sta ?wF ?wX ?wN ?wh1 ?wh2 ?wU ?_; (case wF => k_asm); (case wX => k_asm); (case wN => k_asm); (case wh1 => k_mem); (case wh2 => k_mem); (case wU => walk_at "upd"))
    | (with_reducible refine' sw_poi ?wF ?wX ?wN ?wh1 ?wh2 ?wU ?_; (case wF => k_asm); (case wX => k_asm); (case wN => k_asm); (case wh1 => k_mem); (case wh2 => k_mem); (case wU => walk_at "upd"))
    | (with_reducible refine' sw_hsc ?wF ?wX ?wN ?wh1 ?wh2 ?wU ?_; (case wF => k_asm); (case wX => k_asm); (case wN => k_asm); (case wh1 => k_mem); (case wh2 => k_mem); (case wU => walk_at "upd"))
    | (with_reducible refine' sw_ear ?wF ?wX ?wN ?wh1 ?wh2 ?wU ?_; (case wF => k_asm); (case wX => k_asm); (case wN => k_asm); (case wh1 => k_mem); (case wh2 => k_mem); (case wU => walk_at "upd"))); k_whole; intro _ _ _; (try k_sweep))
  k_with "getAttr ref" => (k_dflt (first
    | (with_reducible refine' gw_buf ?wF ?wX ?wN ?wh1 ?wh2 ?whs ?_; (case wF => k_asm); (case wX => k_asm); (case wN => k_asm); (case wh1 => k_mem); (case wh2 => k_mem); (case whs => with_reducible assumption))
    | (with_reducible refine' gw_sta ?wF ?wX ?wN ?wh1 ?wh2 ?whs ?_; (case wF => k_asm); (case wX => k_asm); (case wN => k_asm); (case wh1 => k_mem); (case wh2 => k_mem); (case whs => with_reducible assumption))
    | (with_reducible refine' gw_poi ?wF ?wX ?wN ?wh1 ?wh2 ?whs ?_; (case wF => k_asm); (case wX => k_asm); (case wN => k_asm); (case wh1 => k_mem); (case wh2 => k_mem); (case whs => with_reducible assumption))
    | (with_reducible refine' gw_hsc ?wF ?wX ?wN ?wh1 ?wh2 ?whs ?_; (case wF => k_asm); (case wX => k_asm); (case wN => k_asm); (case wh1 => k_mem); (case wh2 => k_mem); (case whs => with_reducible assumption))
    | (with_reducible refine' gw_ear ?wF ?wX ?wN ?wh1 ?wh2 ?_; (case wF => k_asm); (case wX => k_asm); (case wN => k_asm); (case wh1 => k_mem); (case wh2 => k_mem))); k_whole)
  k_with "call ref" => ((with_reducible show wpAny _ _ (call (Value.ref 83) _) _ _ _); k_dflt (refine wpAny_call ?_; refine' code_def ?wk1 ?wk2 ?wk3 ?wk4 ?wk5 ?wkA ?wkF ?wkK ?wk6 ?wk7 ?wk8 ?wk9 ?wkB ?_ ?wc2 ?wc3 ?wc4 ?wc5; (case wkA => exact rfl); (case wkF => exact rfl); (case wkK => exact rfl); (case wk1 => k_asm); (case wk2 => k_asm); (case wk3 => k_asm); (case wk4 => k_asm); (case wk5 => k_asm); (case wk6 => k_is); (case wk7 => k_is); (case wk8 => ktr_room); (case wk9 => first | exact BindsTo.of_eq rfl | exact binds_K (by k_in) rfl (by k_is) rfl rfl rfl); (case wc5 => decide); (case wkB => exact locs rfl); (case wc2 => exact rfl); (case wc3 => exact rfl); (case wc4 => exact rfl); k_whole; intro _ _ _ _ _ _ _ _ _; (try dsimp only [List.length_cons, List.length_nil]); (try k_fold)))
  k_with "call ref" => ((with_reducible show wpAny _ _ (call (Value.ref 90) _) _ _ _); k_dflt (refine wpAny_call ?_; refine' code_def ?wk1 ?wk2 ?wk3 ?wk4 ?wk5 ?wkA ?wkF ?wkK ?wk6 ?wk7 ?wk8 ?wk9 ?wkB ?_ ?wc2 ?wc3 ?wc4 ?wc5; (case wkA => exact rfl); (case wkF => exact rfl); (case wkK => exact rfl); (case wk1 => k_asm); (case wk2 => k_asm); (case wk3 => k_asm); (case wk4 => k_asm); (case wk5 => k_asm); (case wk6 => k_is); (case wk7 => k_is); (case wk8 => ktr_room); (case wk9 => first | exact BindsTo.of_eq rfl | exact binds_K (by k_in) rfl (by k_is) rfl rfl rfl); (case wc5 => decide); (case wkB => exact locs rfl); (case wc2 => exact rfl); (case wc3 => exact rfl); (case wc4 => exact rfl); k_whole; intro _ _ _ _ _ _ _ _ _; (try dsimp only [List.length_cons, List.length_nil]); (try k_fold)))
  k_with "call ref" => ((with_reducible show wpAny _ _ (call (Value.ref 265) _) _ _ _); k_dflt (refine' split_parts_c ?wB ?wF ?wX ?wN ?wT ?whk ?whd ?whu ?wht ?whl ?wh1 ?wh2 ?wh3 ?_; (case wB => k_asm); (case wF => k_asm); (case wX => k_asm); (case wN => k_asm); (case wT => k_asm); (case whk => first | exact rfl | assumption); (case whd => ktr_room); (case whu => ktr_units); (case wht => walk_at "tin"); (case whl => walk_at "tin"); (case wh1 => assumption); (case wh2 => assumption); (case wh3 => assumption); k_whole); intro _ _ _ _ _ _ _ wl1; (try k_lt wl1); (try k_sweep); (revert wl1; intro _))
  trivial


theorem ins_end {ks : List Kid} {p : Kid} {y : Value} : kl_ins ((ks ++ [p]).map kv).toArray.toList ((ks.length : Int) + 1) y = (ks ++ [p]).map kv ++ [y] := by
  unfold kl_ins
  have e : ¬ ((ks.length : Int) + 1 < 0) := by omega
  have e2 : min ((ks.length : Int) + 1).toNat (((ks ++ [p]).map kv).toArray.toList).length = ((ks ++ [p]).map kv).length   := by simp
  rw [if_neg e, e2]
  show List.take ((ks ++ [p]).map kv).length ((ks ++ [p]).map kv) ++ y :: List.drop ((ks ++ [p]).map kv).length ((ks ++ [p]).map kv) = (ks ++ [p]).map kv ++ [y]
  rw [List.take_length, List.drop_length]
theorem ins_fits {ks : List Kid} {p : Kid} (h : (ks ++ [p]).length ≤ 10) : Builtin.List.listFitsIndex ((ks.length : Int) + 1) = true := by
  rw [List.length_append, List.length_singleton] at h
  unfold Builtin.List.listFitsIndex
  simp only [Bool.and_eq_true, decide_eq_true_eq]
  omega
theorem insert_end {prog : Program} {w : World} {A : Around} {E : Value → Shared → Prop} {s : Shared} {h₀ : Heap} {L D : Addr} {m : Str → Option Value} {news news' : List (Addr × Obj)} {ks : List Kid} {p : Kid} {n : Nat} {u : Tok} {y : Value} {Q : Value → Shared → Prop}
    (F : Fr h₀ L s.heap m) (N : News h₀ L s.heap news) (hmU : (D, listOf ((ks ++ [p]).map kv).toArray n) ∈ news) (hl : (ks ++ [p]).length ≤ 10) (U : Upd D (listOf ((ks ++ [p]).map kv).toArray n) (listOf ((ks ++ [p]).map kv ++ [y]).toArray (n + 1)) news news')
    (h : ∀ h', Fr h₀ L h' m → News h₀ L h' news' → Q .none { s with heap := h' }) : wpAny (model prog w) A (call (.builtin "list.insert") [.ref D, .int ((ks.length : Int) + 1) u, y]) Q E s :=
  kl_insert F N (ins_fits hl) ins_end U (kids_size hl) h
theorem PreS.tre {w : World} {ax : Int} {V : Tre} {W : Win} {t : Tok} {ks : List Kid} {bs news : List (Addr × Obj)} (h : PreS w ax V W t ks bs news) : TreIn w news V := by
  cases h with
  | first e vx is lo wx hv hp hroot hl hnum hkl hso hc he sh hax d1 d2 d3 off => exact ⟨.tail _ (.tail _ (.tail _ vx)), .head _, .tail _ (.head _), is, lo⟩
  | next S hl => exact (S.ba hl).st.tre
theorem PreS.leaf {w : World} {ax : Int} {V : Tre} {W : Win} {t : Tok} {ks : List Kid} {bs news : List (Addr × Obj)} (h : PreS w ax V W t ks bs news) : LeafIn w news V W := by
  cases h with
  | first e vx is lo wx hv hp hroot hl hnum hkl hso hc he sh hax d1 d2 d3 off => exact ⟨⟨.tail _ (.tail _ (.tail _ wx)), .tail _ (.tail _ (.head _))⟩, hv, hso, hc.imp fun _ z => .tail _ (.tail _ (.tail _ z))⟩
  | next S hl => exact (S.ba hl).st.leaf (W, t) (by simp)

theorem size_x_upd {P : Params} {x d : Addr} {W : Win} {ax sz : Int} {tk2 : Tok} {news news' : List (Addr × Obj)} (U : Upd d (dictOf (W.es P) 16) (dictOf ((W.setSize ax sz tk2).es P) 16) news news') :
    Upd ({ W with x := x, d := d } : Win).d (dictOf (({ W with x := x, d := d } : Win).es P) 16) (dictOf ((({ W with x := x, d := d } : Win).setSize ax sz tk2).es P) 16) news news' := by
  unfold Win.setSize at U ⊢
  split <;> rename_i h
  · rw [if_pos h] at U; exact U
  · rw [if_neg h] at U; exact U
set_option maxRecDepth 100000 in
set_option maxHeartbeats 8000000 in
theorem set_size_x {w : World} {p : Program} {loose : List Str} {mean : ExcName → Option Value} {mg mb : Str → Option Value} {dp un : Nat} {gd : Option (List Code)} {cn : Str} {cs : Scope} {a : Addr} {ccd : Value} {cl : List (Str × Addr)} {outer : List Env} {A₀ : Around} {base h₀ : Heap} {L : Addr} {m : Str → Option Value} {news : List (Addr × Obj)} {s : Shared} {Q E : Value → Shared → Prop} {x d : Addr} {W : Win} {ax sz : Int} {tk tk2 : Tok} {news' : List (Addr × Obj)}
    (B : Below A₀ base outer h₀) (F : Fr h₀ L s.heap m) (X : (Mine.hd.heap_39 w.params).In h₀) (N : News h₀ L s.heap news) (T : Top p loose mean mg mb h₀) (hk : cs.kind = .function) (hd : dp + 5 < recursionLimit) (hu : un + 60 < cLine)
    (h1 : (x, instObj 93 d) ∈ news) (h2 : (d, dictOf (W.es w.params) 16) ∈ news) (U : Upd d (dictOf (W.es w.params) 16) (dictOf ((W.setSize ax sz tk2).es w.params) 16) news news')
    (hret : ∀ (h9 : Heap) (tk9 : Nat), Fr h₀ L h9 m → News h₀ L h9 news' → Q .none { s with heap := h9, toks := tk9 }) :
    wpAny (model PySem.Challenge.rw_np0057_01.row.prog w) (ktrTop dp un gd cn cs L a ccd cl outer) (call (.ref 69) [.ref x, .int ax tk, .int sz tk2]) Q E s :=
  set_size_c (W := { W with x := x, d := d }) B F X N T hk hd hu ⟨h1, h2⟩ (size_x_upd U) hret

theorem split_pre {P : Params} {h₀ h : Heap} {L : Addr} {V : Tre} {R W : Win} {ks : List Kid} {t : Tok} {n : Nat} {bs rest : List (Addr × Obj)} (N : News h₀ L h (led P R (ks ++ [(W, t)]) (spb P V R (ks ++ [(W, t)]) n bs))) (e : rest = de P R :: (ks.map (fun k => de P k.1) ++ bs)) :
    News h₀ L h ((V.d, dictOf (V.es P) 7) :: (V.wd, V.wo) :: (R.chi, listOf ((ks ++ [(W, t)]).map kv).toArray n) :: (W.d, dictOf (W.es P) 16) :: rest) := by
  subst e
  refine cb_drop N fun p hp => ?_
  simp only [led, spb, List.map_append, List.map_cons, List.map_nil, List.mem_append, List.mem_cons, List.not_mem_nil, or_false] at hp ⊢
  rcases hp with h | h | h | h | h | h | h
  · exact .inr (.inr (.inl h))
  · exact .inr (.inr (.inr (.inl h)))
  · exact .inr (.inr (.inr (.inr (.inl h))))
  · exact .inr (.inl (.inr h))
  · exact .inl h
  · exact .inr (.inl (.inl h))
  · exact .inr (.inr (.inr (.inr (.inr h))))
theorem split_off {w : World} {ax : Int} {V : Tre} {R W : Win} {ks : List Kid} {t : Tok} {bs rest : List (Addr × Obj)} (S : Sp w ax bs V R (ks ++ [(W, t)])) (e : rest = de w.params R :: (ks.map (fun k => de w.params k.1) ++ bs)) :
    V.d ≠ V.wd ∧ V.d ≠ R.chi ∧ V.d ≠ W.d ∧ V.wd ≠ R.chi ∧ V.wd ≠ W.d ∧ R.chi ≠ W.d ∧ (∀ p ∈ rest, p.1 ≠ V.d) ∧ (∀ p ∈ rest, p.1 ≠ V.wd) ∧ (∀ p ∈ rest, p.1 ≠ R.chi) ∧ ∀ p ∈ rest, p.1 ≠ W.d := by
  subst e
  have dd := S.dd
  have off := S.off
  simp only [List.map_append, List.map_cons, List.map_nil, List.nodup_cons, List.mem_cons, List.mem_append, List.not_mem_nil, or_false, not_or] at dd off
  obtain ⟨⟨a1, a2, a3, a4, a5⟩, ⟨b1, b2, b3, b4⟩, ⟨c1, c2, c3⟩, ⟨d1, d2⟩, e1⟩ := dd
  have mk : ∀ y : Addr, y ∉ ks.map (·.1.d) → ∀ k ∈ ks, k.1.d ≠ y := fun y hy k hk e => hy (e ▸ List.mem_map.mpr ⟨k, hk, rfl⟩)
  have key : ∀ y : Addr, R.d ≠ y → y ∉ ks.map (·.1.d) → (∀ q ∈ bs, q.1 ≠ y) → ∀ p ∈ de w.params R :: (ks.map (fun k => de w.params k.1) ++ bs), p.1 ≠ y := fun y h1 h2 h3 => List.forall_mem_cons.mpr ⟨h1, fun p hp => by
    rcases List.mem_append.mp hp with hp | hp
    · obtain ⟨k, hk, rfl⟩ := List.mem_map.mp hp
      exact mk y h2 k hk
    · exact h3 p hp⟩
  refine ⟨a1, a2, a5, b1, b4, c3, key _ (Ne.symm a3) a4 fun q hq => (off q hq).1, key _ (Ne.symm b2) b3 fun q hq => (off q hq).2.1, key _ (Ne.symm c1) c2 fun q hq => (off q hq).2.2.1, key _ d2 (fun hm => ?_) fun q hq => (off q hq).2.2.2.2.2⟩
  obtain ⟨k, hk, e⟩ := List.mem_map.mp hm
  exact (List.nodup_append.mp e1).2.2 _ hm _ (.head _) rfl
theorem words_19 : True := by
  k_with "call ref" => ((with_reducible show wpAny _ _ (call (Value.ref 69) _) _ _ _); k_dflt (refine' set_size_x ?wB ?wF ?wX ?wN ?wT ?whk ?whd ?whu ?wh1 ?wh2 ?wU ?_; (case wB => k_asm); (case wF => k_asm); (case wX => k_asm); (case wN => k_asm); (case wT => k_asm); (case whk => first | exact rfl | assumption); (case whd => ktr_room); (case whu => ktr_units); (case wh1 => k_mem); (case wh2 => k_mem); (case wU => walk_at "upd"); k_whole); intro _ _ _ _; (try k_sweep))
  k_with "tin" => (with_reducible refine WinIn.mk ?wh1 ?wh2; (case wh1 => k_mem); (case wh2 => k_mem))
  k_with "call type:list" => (k_dflt (refine' list_copyK ?wF ?wN ?wl ?_ ?wz; (case wF => k_asm); (case wN => k_asm); (case wl => kmk_list); (case wz => exact Nat.zero_le _); k_whole); intro _ _ _ _ _ wl1; (try k_lt wl1); (try k_sweep); (revert wl1; intro _))
  k_with "call builtin:list.insert" => (k_dflt (refine' insert_end ?wF ?wN ?wM ?wz ?wU ?_; (case wF => k_asm); (case wN => k_asm); (case wM => k_mem); (case wz => with_reducible assumption); (case wU => walk_at "upd"); k_whole); intro _ _ _; (try k_sweep))
  trivial

set_option maxRecDepth 100000 in
set_option maxHeartbeats 8000000 in
theorem split_c {w : World} {p : Program} {loose : List Str} {mean : ExcName → Option Value} {mg mb : Str → Option Value} {dp un : Nat} {gd : Option (List Code)} {cn : Str} {cs : Scope} {a : Addr} {ccd : Value} {cl : List (Str × Addr)} {outer : List Env} {A₀ : Around} {base h₀ : Heap} {L : Addr} {m : Str → Option Value} {news : List (Addr × Obj)} {s : Shared} {Q E : Value → Shared → Prop} {V : Tre} {W : Win} {tk1 tk2 tk3 tkk : Tok} {ax sz : Int} {ks : List Kid} {bs : List (Addr × Obj)}
    (B : Below A₀ base outer h₀) (F : Fr h₀ L s.heap m) (X : (Mine.hd.heap_39 w.params).In h₀) (N : News h₀ L s.heap news) (T : Top p loose mean mg mb h₀) (hk : cs.kind = .function) (hd : dp + 90 < recursionLimit) (hu : un + 1000 < cLine)
    (hn : PreS w ax V W tkk ks bs news) (h1 : 0 < sz) (h2 : (if ax = 0 then V.lw else V.lh) ≤ sz) (h3 : (if ax = 0 then V.lw else V.lh) ≤ W.size ax - sz) (hlen : ks.length ≤ 6)
    (hret : ∀ (V' : Tre) (R' N : Win) (ks2 : List Kid) (tN : Tok) (bs' : List (Addr × Obj)) (n9 : Nat) (h9 : Heap) (tk9 : Nat) (t9 : Tok), Fr h₀ L h9 m → News h₀ L h9 (led w.params R' (ks2 ++ [(N, tN)]) (spb w.params V' R' (ks2 ++ [(N, tN)]) n9 bs')) → Sp w ax bs' V' R' (ks2 ++ [(N, tN)]) → V'.x = V.x → V'.lw = V.lw → V'.lh = V.lh → ks2.length = ks.length + 1 → (ks2 ++ [(N, tN)]).map (·.1.size ax) = ks.map (·.1.size ax) ++ [sz, W.size ax - sz] → (∀ q ∈ bs, q ∈ bs') → Q (.int N.num t9) { s with heap := h9, toks := tk9 }) :
    wpAny (model PySem.Challenge.rw_np0057_01.row.prog w) (ktrTop dp un gd cn cs L a ccd cl outer) (call (.ref 279) [.ref V.x, .int W.num tk1, .int sz tk2, .int ax tk3, .bool false]) Q E s := by
  refine wpAny_call ?_
  k_dflt (refine' code_def (binds := [(Str.ofString "tree", .ref V.x), (Str.ofString "number", .int W.num tk1), (Str.ofString "size", .int sz tk2), (Str.ofString "axis", .int ax tk3), (Str.ofString "is_ahead", .bool false)]) ?k1 ?k2 ?k3 ?k4 ?k5 ?kA ?kF ?kK ?k6 ?k7 ?k8 ?k9 ?kB ?_ ?c2 ?c3 ?c4 ?c5; (case kA => exact rfl); (case kF => exact rfl); (case kK => assumption); (case k1 => exact B); (case k2 => exact F); (case k3 => exact X); (case k4 => exact N); (case k5 => exact T); (case k6 => k_is); (case k7 => k_is); (case k8 => ktr_room); (case k9 => exact BindsTo.of_eq rfl); (case c5 => decide); (case kB => exact locs rfl); (case c2 => exact rfl); (case c3 => exact rfl); (case c4 => exact rfl); k_whole; intro g' L' h' FG' F' N' B' X' T'; (try dsimp only [List.length_cons, List.length_nil]); (try k_fold))
  have htr := hn.tre
  have hlf := hn.leaf
  repeat' (first | (k_unfold; (try dsimp only)) | ((fail_if_success (with_reducible show wpAny _ _ (call (Value.ref 272) _) _ _ _)); first | walk1 | (dsimp only; walk1)))
  rename News _ _ _ _ => N5
  have N6 : News g' L' _ news := cb_drop N5 (fun p hp => by k_mem)
  clear N5
  refine' combined_c ?B ?F ?X ?N ?T ?hk ?hd ?hu ?hn ?_
  (case B => k_asm)
  (case F => k_asm)
  (case X => k_asm)
  (case N => k_asm)
  (case T => k_asm)
  (case hk => first | exact rfl | assumption)
  (case hd => ktr_room)
  (case hu => ktr_units)
  (case hn => exact hn)

  intro V' R' W' tW bs' n9 h9 tk9 t9 F9 N9 S eV elw elh eW ewi ehe hsub eWx
  rw [← eV, ← eW] at F9
  (try rw [← eV, ← eW])
  clear N6
  have hl10 : (ks ++ [(W', tW)]).length ≤ 10 := by rw [List.length_append]; exact Nat.le_trans (Nat.succ_le_succ hlen) (by decide)
  have hl10' : (ks ++ [(W', tW)]).length ≤ 9 := by rw [List.length_append]; exact Nat.le_trans (Nat.succ_le_succ hlen) (by decide)
  have hBa := S.ba (n := n9) hl10
  have hSt := hBa.st
  have hW : (W', tW) ∈ ks ++ [(W', tW)] := by simp
  obtain ⟨rest, hrest⟩ : ∃ rest, rest = de w.params R' :: (ks.map (fun k => de w.params k.1) ++ bs') := ⟨_, rfl⟩
  have N7 : News g' L' h9 ((V'.d, dictOf (V'.es w.params) 7) :: (V'.wd, V'.wo) :: (R'.chi, listOf ((ks ++ [(W', tW)]).map kv).toArray n9) :: (W'.d, dictOf (W'.es w.params) 16) :: rest) := split_pre N9 hrest
  clear N9
  have hb : ∀ q ∈ bs', q ∈ rest := fun q hq => by rw [hrest]; exact .tail _ (List.mem_append_right _ hq)
  have hR2 : (R'.d, dictOf (R'.es w.params) 16) ∈ rest := by rw [hrest]; exact .head _
  obtain ⟨hwx, hwv, hwso, hwp, ⟨wn1, hwc⟩, ⟨wn2, hwe⟩, hwsh⟩ := S.kx _ hW
  dsimp only at hwx hwv hwso hwp hwc hwe hwsh
  have hwn := S.kn _ hW
  dsimp only at hwn
  refine an10 (split_off S hrest) ?_
  intro d12 d13 d14 d23 d24 d34 o1 o2 o3 o4
  have hxx := hb _ S.vx
  have hrx := hb _ S.rx
  have hwx := hb _ hwx
  have hwc := hb _ hwc
  have hwe := hb _ hwe
  have htr' : TreIn w ((V'.d, dictOf (V'.es w.params) 7) :: (V'.wd, V'.wo) :: (R'.chi, listOf ((ks ++ [(W', tW)]).map kv).toArray n9) :: (W'.d, dictOf (W'.es w.params) 16) :: rest) V' := ⟨.tail _ (.tail _ (.tail _ (.tail _ hxx))), .head _, .tail _ (.head _), S.is, S.lo⟩
  have hlf' : LeafIn w ((V'.d, dictOf (V'.es w.params) 7) :: (V'.wd, V'.wo) :: (R'.chi, listOf ((ks ++ [(W', tW)]).map kv).toArray n9) :: (W'.d, dictOf (W'.es w.params) 16) :: rest) V' W' := ⟨⟨.tail _ (.tail _ (.tail _ (.tail _ hwx))), .tail _ (.tail _ (.tail _ (.head _)))⟩, hwv, hwso, wn1, .tail _ (.tail _ (.tail _ (.tail _ hwc)))⟩
  have d21 := Ne.symm d12
  have d31 := Ne.symm d13
  have d41 := Ne.symm d14
  have d32 := Ne.symm d23
  have d42 := Ne.symm d24
  have d43 := Ne.symm d34
  have hlo := S.lo
  have hdi := S.is
  have hrv := S.rat
  have hnd := S.nd
  have hneW : W'.num ≠ V'.last + 1 := by have := hwn.2.1; omega
  have hneR : R'.num ≠ V'.last + 1 := by have h1 := S.rnum; have h2 := S.last; rw [List.length_append, List.length_singleton] at h2; omega
  have hkl2 : V'.kvs.length ≤ sizeLine := Nat.le_trans S.kl (Nat.le_trans (Nat.succ_le_succ hl10) (by decide))
  repeat' (first | (k_unfold; (try dsimp only)) | ((fail_if_success (with_reducible show wpAny _ _ (subscriptTail _ _ (Value.ref _) (Value.int _ _)) _ _ _)); (fail_if_success (with_reducible show wpAny _ _ (call (Value.ref 225) _) _ _ _)); first | (dsimp only; walk1) | walk1))
  (try dsimp only)
  refine' item_litK ?k1 ?k2 ?k3 ?k4 ?_ ?k6
  (case k1 => kmk_list)
  (case k2 => decide)
  (case k3 => decide)
  (case k4 => rfl)
  (case k6 => with_unfolding_all rfl)
  repeat' (first | (k_unfold; (try dsimp only)) | ((fail_if_success (with_reducible show wpAny _ _ (subscriptTail _ _ (Value.ref _) (Value.int _ _)) _ _ _)); (fail_if_success (with_reducible show wpAny _ _ (call (Value.ref 225) _) _ _ _)); first | (dsimp only; walk1) | walk1))
  (try dsimp only)
  refine' kdt_tail (knd := PySem.intKind _ _) ?a ?b ?c ?_
  (case a => k_asm)
  (case b => k_mem)
  (case c => k_asm)
  refine' dict_getE ?a ?b ?c ?d ?e ?_
  (case a => k_asm)
  (case b => k_mem)
  (case c => k_asm)
  (case d => exact intKind_is _ _ _ _)
  (case e => exact hwv)
  repeat' (first | (k_unfold; (try dsimp only)) | ((fail_if_success (with_reducible show wpAny _ _ (subscriptTail _ _ (Value.ref _) (Value.int _ _)) _ _ _)); (fail_if_success (with_reducible show wpAny _ _ (call (Value.ref 225) _) _ _ _)); first | (dsimp only; walk1) | walk1))
  (try dsimp only)
  refine' kdt_tail (knd := PySem.intKind _ _) ?a ?b ?c ?_
  (case a => k_asm)
  (case b => k_mem)
  (case c => k_asm)
  refine' dict_getE ?a ?b ?c ?d ?e ?_
  (case a => k_asm)
  (case b => k_mem)
  (case c => k_asm)
  (case d => exact intKind_is _ _ _ _)
  (case e => exact valueAt_stored_ne hneW hwv)
  repeat' (first | (k_unfold; (try dsimp only)) | ((fail_if_success (with_reducible show wpAny _ _ (subscriptTail _ _ (Value.ref _) (Value.int _ _)) _ _ _)); (fail_if_success (with_reducible show wpAny _ _ (call (Value.ref 225) _) _ _ _)); first | (dsimp only; walk1) | walk1))
  (try dsimp only)
  refine' kdt_tail (knd := PySem.intKind _ _) ?a ?b ?c ?_
  (case a => k_asm)
  (case b => k_mem)
  (case c => k_asm)
  refine' dict_getE ?a ?b ?c ?d ?e ?_
  (case a => k_asm)
  (case b => k_mem)
  (case c => k_asm)
  (case d => exact intKind_is _ _ _ _)
  (case e => exact valueAt_stored_ne hneR hrv)
  repeat' (first | (k_unfold; (try dsimp only)) | ((fail_if_success (with_reducible show wpAny _ _ (subscriptTail _ _ (Value.ref _) (Value.int _ _)) _ _ _)); (fail_if_success (with_reducible show wpAny _ _ (call (Value.ref 225) _) _ _ _)); first | (dsimp only; walk1) | walk1))
  rename News _ _ _ _ => N8
  rename Fr _ _ _ _ => F8
  rename Win => W9
  rename (W9.num = _) => e1
  rename (W9.sort = _) => e2
  rename (W9.par = _) => e3
  rename (W9.d < W9.x ∧ _) => l6
  rename (_ < W9.d ∧ V'.d < W9.d ∧ _) => l1
  rename (_ < W9.x ∧ V'.d < W9.x ∧ _) => l2
  rename (_ < W9.chi ∧ V'.d < W9.chi ∧ _) => l3
  rename (_ < _ ∧ _ < _ ∧ W9.x < _ ∧ W9.d < _ ∧ _) => lD
  rename (Obj.IsDictOf _ _ _) => is'
  refine ex4 (split_mid S hrest N8 rfl rfl rfl rfl rfl rfl rfl rfl rfl is' rfl rfl e1 e2 e3 hwsh l1.2 l2.2 l3.2 ⟨lD.2.2.2.2.2.2.2.2.1, lD.2.2.2.2.2.2.2.2.2.1, lD.2.2.2.2.2.2.2.2.2.2.1, lD.2.2.2.2.2.2.2.2.2.2.2.1, lD.2.2.2.2.2.2.2.2.2.2.2.2⟩ l6.1 (Nat.lt_trans l6.1 l6.2.1) lD.2.2.2.1) ?_
  intro Nw tM bs2 V2 hX9
  refine an8 hX9 ?_
  clear hX9
  intro N10 S2 g1 g2 g3 g4 g5 g6
  clear N8
  have hk2 : (ks ++ (W', tW) :: [(Nw, tM)]).length ≤ 10 := by
    rw [List.length_append]
    exact Nat.le_trans (Nat.add_le_add_right hlen 2) (by decide)
  have B2 := S2.ba (n := n9 + 1) hk2
  refine ex1 B2.fK ?_
  intro nK hX9
  refine an5 hX9 ?_
  clear hX9
  intro ksub kmem kupd kled kR
  have ht2 : TreIn w (nK W') V2 := by rw [kled W' rfl]; exact B2.st.tre
  have hw2 : WinIn w.params (nK W') W' := by rw [kled W' rfl]; exact (B2.st.leaf (W', tW) (by simp)).win
  have hv2 : valueAt V2.kvs W'.num = some (.ref W'.x) := (B2.kx (W', tW) (by simp)).2.1
  rw [← kled W' rfl] at N10
  have e2x : V2.x = V'.x := g1
  (try dsimp only)
  rw [← e2x] at F8
  rw [← e2x]
  refine' set_tree_size_c (V := V2) (W := W') (news' := nK (W'.setSize ax (W.size ax - (W.size ax - sz)) _)) ?B ?F ?X ?N ?T ?hk ?hd ?hu ht2 hv2 hw2 hwso kupd.upd ?_
  (case B => k_asm)
  (case F => exact F8)
  (case N => exact N10)
  (case X => k_asm)
  (case T => k_asm)
  (case hk => first | exact rfl | assumption)
  (case hd => ktr_room)
  (case hu => ktr_units)
  k_whole
  intro h11 tk11 F11 N11
  rw [kled (W'.setSize ax (W.size ax - (W.size ax - sz)) _) Same.setSize.d] at N11
  clear N10 F8
  generalize hW3 : W'.setSize ax (W.size ax - (W.size ax - sz)) _ = W3 at N11
  have sW3 : Same W' W3 := by rw [← hW3]; exact Same.setSize
  have zW3 : W3.size ax = sz := by rw [← hW3, size_set]; omega
  have kn3 : Kin (ks ++ (W', tW) :: [(Nw, tM)]) (ks ++ (W3, tW) :: [(Nw, tM)]) := Kin.one sW3
  have B3 := B2.move .refl kn3
  repeat' (first | (k_unfold; (try dsimp only)) | ((fail_if_success (with_reducible show wpAny _ _ (call (Value.ref 286) _) _ _ _)); first | walk1 | (dsimp only; walk1)))
  rename News _ _ _ _ => N12
  rename Fr _ _ _ _ => F12
  (try dsimp only)
  refine' joined_c (V := V2) (R := R') (kids := ks ++ (W3, tW) :: [(Nw, tM)]) ?B ?F ?X ?N ?T ?hk ?hd ?hu B3 rfl rfl ?_
  (case B => k_asm)
  (case F => exact F12)
  (case N => exact N12)
  (case X => k_asm)
  (case T => k_asm)
  (case hk => first | exact rfl | assumption)
  (case hd => ktr_room)
  (case hu => ktr_units)
  k_whole
  intro h13 tk13 lf n13 kids4 F13 N13 hk4 hs4 hlf
  clear N12 F12
  have S4 := (S2.move .refl (kn3.trans hk4))
  obtain ⟨fl1, fl2⟩ := lf_fresh hlf hk4.ds
  have S5 := S4.chi fl1 fl2
  have B5 : Ba w ((lf, listOf ((ks ++ (W3, tW) :: [(Nw, tM)]).map kv).toArray n13) :: spb w.params V2 R' (ks ++ (W', tW) :: [(Nw, tM)]) (n9 + 1) bs2) V2 (R'.setchi lf) kids4 := by
    rw [← hk4.kvs]
    exact (B3.move .refl hk4).chi (fun e => fl1 (e ▸ .tail _ (.tail _ (.head _)))) (fun p hp e => fl1 (e ▸ .tail _ (.tail _ (.tail _ (List.mem_map.mpr ⟨p, hp, rfl⟩)))))
  repeat' (first | (k_unfold; (try dsimp only)) | ((fail_if_success (with_reducible show wpAny _ _ (call (Value.ref 232) _) _ _ _)); first | walk1 | (dsimp only; walk1)))
  rename News _ _ _ _ => N14
  rename Fr _ _ _ _ => F14
  (try dsimp only)
  refine' set_places_c (V := V2) (R := R'.setchi lf) (kids := kids4) ?B ?F ?X ?N ?T ?hk ?hd ?hu B5 rfl S.rax ?_
  (case B => k_asm)
  (case F => exact F14)
  (case N => exact N14)
  (case X => k_asm)
  (case T => k_asm)
  (case hk => first | exact rfl | assumption)
  (case hd => ktr_room)
  (case hu => ktr_units)
  k_whole
  intro h15 tk15 R5 kids5 F15 N15 hR5 hk5 hs5 hp5
  clear N14 F14
  have S6 := S5.move hR5 hk5
  have kkk := kn3.trans (hk4.trans hk5)
  rw [show ks ++ (W', tW) :: [(Nw, tM)] = (ks ++ [(W', tW)]) ++ [(Nw, tM)] by simp] at kkk
  have N16 := spb_drop (R := R5) (R0 := R') (lf := lf) (k0 := ks ++ (W3, tW) :: [(Nw, tM)]) (k1 := ks ++ (W', tW) :: [(Nw, tM)]) hR5.chi (hk4.trans hk5).kvs N15
  obtain ⟨ks5, N5, rfl, kk, sN⟩ := Kin.snoc kkk
  have hl5 : (ks5 ++ [(N5, tM)]).length ≤ 10 := by rw [kkk.length, List.length_append]; exact Nat.le_trans (Nat.succ_le_succ hl10') (by decide)
  have B6 := S6.ba (n := n13) hl5
  have hNm : (N5, tM) ∈ ks5 ++ [(N5, tM)] := by simp
  have hx5 := led_base (P := w.params) (R := R5) (kids := ks5 ++ [(N5, tM)]) (B6.kx _ hNm).1
  have hd5 := led_kid (P := w.params) (R := R5) (base := spb w.params V2 R5 (ks5 ++ [(N5, tM)]) n13 bs2) hNm
  have eNx : N5.x = W9.x := sN.x.trans g4
  rw [← eNx] at F15
  clear N15
  dsimp only at hx5
  have hz := (hs5 ax).trans (hs4 ax)
  generalize hLL : led w.params R5 (ks5 ++ [(N5, tM)]) (spb w.params V2 R5 (ks5 ++ [(N5, tM)]) n13 bs2) = LL at N16 hx5 hd5
  repeat' (first | (k_unfold; (try dsimp only)) | ((fail_if_success (with_reducible show wpAny _ _ (exec (Stmt.While _ _ _ _) _) _ _ _)); (fail_if_success (with_reducible show WhlRest _ _ _ _ _ _ _ _ _ _ _)); (fail_if_success (with_reducible show WStep _ _ _ _ _ _)); first | walk1 | (dsimp only; walk1)))
  rename News _ _ _ _ => N17
  subst hLL
  refine hret V2 R5 N5 ks5 tM bs2 n13 _ _ _ (by k_asm) N17 S6 (e2x.trans eV) (g2.trans elw) (g3.trans elh) (by rw [kk.length, List.length_append]; rfl) ?_ (fun q hq => g6 q (hsub q hq))
  rw [hz, List.map_append, List.map_cons, List.map_cons, List.map_nil, zW3, g5]



end PartD18
section PartLawB

def lawB : List Stmt := match PySem.Challenge.rw_np0057_01.row.prog.main.body.getLast? with | some (.FunctionDef _ _ b _ _ _ _ _ _ _) => b | _ => []
def lawS : Scope := match PySem.Challenge.rw_np0057_01.row.prog.main.body.getLast? with | some (.FunctionDef _ _ _ _ _ _ s _ _ _) => s | _ => default
def forB (k : Nat) : List Stmt := match lawB[k]? with | some (.For _ _ b _ _) => b | _ => []
abbrev lawE (L f : Addr) (cdv : Value) : Env := envOfC (Str.ofString "law") lawS L f cdv


end PartLawB
section PartD19
theorem words_20 : True := by
  k_with_none
  k_with "room" => first | exact rm2 hd rfl | exact rm1 hd rfl | exact rm0 hd | exact rm3 hd rfl | exact Nat.le_of_ble_eq_true rfl
  k_with "units" => first | exact rm2 hu rfl | exact rm1 hu rfl | exact rm0 hu | exact rm3 hu rfl | exact Nat.le_of_ble_eq_true rfl
  k_with "pj" => first | with_reducible assumption | with_reducible exact And.left (by assumption) | with_reducible exact And.left (And.right (by assumption)) | with_reducible exact And.right (by assumption) | with_reducible exact And.left (And.right (And.right (by assumption))) | with_reducible exact And.right (And.right (by assumption)) | with_reducible exact And.left (And.right (And.right (And.right (by assumption)))) | with_reducible exact And.right (And.right (And.right (by assumption))) | with_reducible exact And.left (And.right (And.right (And.right (And.right (by assumption))))) | with_reducible exact And.right (And.right (And.right (And.right (by assumption)))) | with_reducible exact And.left (And.right (And.right (And.right (And.right (And.right (by assumption)))))) | with_reducible exact And.right (And.right (And.right (And.right (And.right (by assumption))))) | with_reducible exact And.left (And.right (And.right (And.right (And.right (And.right (And.right (by assumption))))))) | with_reducible exact And.right (And.right (And.right (And.right (And.right (And.right (by assumption)))))) | with_reducible exact And.left (And.right (And.right (And.right (And.right (And.right (And.right (And.right (by assumption)))))))) | with_reducible exact And.right (And.right (And.right (And.right (And.right (And.right (And.right (by assumption))))))) | with_reducible exact And.left (And.right (And.right (And.right (And.right (And.right (And.right (And.right (And.right (by assumption))))))))) | with_reducible exact And.right (And.right (And.right (And.right (And.right (And.right (And.right (And.right (by assumption)))))))) | with_reducible exact And.left (And.right (And.right (And.right (And.right (And.right (And.right (And.right (And.right (And.right (by assumption)))))))))) | with_reducible exact And.right (And.right (And.right (And.right (And.right (And.right (And.right (And.right (And.right (by assumption))))))))) | with_reducible exact And.left (And.right (And.right (And.right (And.right (And.right (And.right (And.right (And.right (And.right (And.right (by assumption))))))))))) | with_reducible exact And.right (And.right (And.right (And.right (And.right (And.right (And.right (And.right (And.right (And.right (by assumption)))))))))) | with_reducible exact And.left (And.right (And.right (And.right (And.right (And.right (And.right (And.right (And.right (And.right (And.right (And.right (by assumption)))))))))))) | with_reducible exact And.right (And.right (And.right (And.right (And.right (And.right (And.right (And.right (And.right (And.right (And.right (by assumption))))))))))) | with_reducible exact And.left (And.right (And.right (And.right (And.right (And.right (And.right (And.right (And.right (And.right (And.right (And.right (And.right (by assumption))))))))))))) | with_reducible exact And.right (And.right (And.right (And.right (And.right (And.right (And.right (And.right (And.right (And.right (And.right (And.right (by assumption)))))))))))) | with_reducible exact And.left (And.right (And.right (And.right (And.right (And.right (And.right (And.right (And.right (And.right (And.right (And.right (And.right (And.right (by assumption)))))))))))))) | with_reducible exact And.right (And.right (And.right (And.right (And.right (And.right (And.right (And.right (And.right (And.right (And.right (And.right (And.right (by assumption)))))))))))))
  k_with "ne0" => (refine neN ?_; (try dsimp only); first | with_reducible assumption | exact Ne.symm (by with_reducible assumption) | exact Nat.ne_of_lt (by walk_at "pj") | exact Nat.ne_of_gt (by walk_at "pj") | walk_at "ne1")
  k_with "allmem" => first | exact List.forall_mem_nil _ | exact List.forall_mem_cons.mpr ⟨by k_mem, by walk_at "allmem"⟩ | exact all_self | exact all_tail (by walk_at "allmem")
  k_with "subscriptTail" => (k_here; (with_reducible show wpAny _ _ (subscriptTail _ _ (Value.ref _) (Value.int _ _)) _ _ _); k_dflt (refine kdt_tail (knd := PySem.intKind _ _) (by k_asm) (by k_mem) (by k_asm) ?_))
  k_with "getItem ref int" => (k_here; k_dflt (refine kdt_getItem (knd := PySem.intKind _ _) (by k_asm) (by k_mem) (by k_asm) (intKind_is _ _ _ _) (by first | k_asm | exact valueAt_stored) ?_))
  k_with "getMethod ref" => (k_here; (with_reducible show wpAny _ _ (getMethod (Value.ref _) (Str.ofString "get") _) _ _ _); k_dflt (refine kdg_method (knd := PySem.intKind _ _) (by k_asm) (by k_mem) (by k_asm) ?_))
  k_with "call builtin:dict.get" => (k_here; k_dflt (refine kdg_get2 (knd := PySem.intKind _ _) (by k_asm) (by k_mem) (by k_asm) (by k_asm) (intKind_is _ _ _ _) (some _) (by k_asm) ?_); (try dsimp only [Option.getD]))
  k_with "compareOp NotEq ref ref" => (k_here; k_dflt (first | (refine ne_nil_none (by k_asm) (by k_mem) (by k_mem) (by ktr_units) ?_) | (refine ne_nil_some (by k_asm) (by k_mem) (by k_mem) (by first | rfl | simp) (by ktr_units) ?_)))
  k_with "k_mem" => first | with_reducible assumption | with_reducible exact List.mem_cons_self | (with_reducible refine List.mem_cons_of_mem _ ?_; k_mem) | assumption
  k_with "eval Name" => (k_dflt (first
    | (refine' nameX_L ?wF ?wv ?_ ?wa ?wb; (case wF => with_reducible assumption); (case wa => rfl); (case wb => rfl); (case wv => first | rfl | assumption); k_whole)
    | (refine' nameX_K ?wF ?wX ?wT ?we ?_ ?wa ?wb; (case wF => k_asm); (case wX => k_asm); (case wT => k_asm); (case wa => rfl); (case wb => rfl); (case we => k_is); k_whole)))
  k_with "callWith" => first
    | with_reducible refine callWith_method0 ?_
    | (with_reducible refine' callWith_method1 ?_ ?whe ?whp; (case whe => k_dflt exact rfl); (case whp => k_dflt exact rfl))
  k_with "newList" => (k_dflt (refine' newList_K ?wk1 ?wk2 ?_; (case wk1 => k_asm); (case wk2 => k_asm); k_whole); intro _ _ _ _ wl1; (try k_lt wl1); (try k_sweep); (revert wl1; intro _))
  k_with "execs cons" => ((try k_gentoks); (with_reducible refine wpAny_execs_cons ?_); try dsimp only)
  k_with "exec Assign" => first
    | (with_reducible refine' wpAny_Assign_Name ?_ ?whs; (case whs => k_dflt exact rfl))
    | (with_reducible refine plainObj_wpAny_Assign_Attribute ?_ ?_; rotate_left; with_unfolding_all rfl)
  k_with "subscriptTail Attribute" => ((with_reducible show wpAny _ _ (subscriptTail _ (PySem.Expr.Slice _ _ _ _) _ _) _ _ _); k_dflt (refine kba_turn (value' := PySem.Expr.Name (PySem.Str.ofString "_") ⟨0, 0, 0, 0⟩) (fun _ => rfl) ?_))
  k_with "exec While" => (k_dflt (refine whl_start 100 ?_))
  k_with "eval Call Attribute" => (refine MethodCall_ ?_)
  k_with "getAttr ref" => (k_dflt (refine' get_own ?wk1 ?wk2 ?wk3 ?wk4 ?wk5 ?wk6 ?wk7 ?wk8 ?wk9 ?_; (case wk1 => k_asm); (case wk2 => k_asm); (case wk3 => (refine' InstAt.of_news ?wN ?wh1 ?wh2; (case wN => k_asm); (case wh1 => k_mem); (case wh2 => k_mem))); (case wk4 => k_is); (case wk5 => k_is); (case wk6 => k_is); (case wk7 => k_is); (case wk8 => k_get); (case wk9 => rfl); k_whole))
  k_with "tin" => first | with_reducible assumption | (with_reducible refine TreIn.cons ?_; walk_at "tin") | (with_reducible refine WinIn.cons ?_; walk_at "tin") | (with_reducible refine LeafIn.cons ?_; walk_at "tin") | (with_reducible refine RootIn.cons ?_; walk_at "tin") | exact St.cons (by walk_at "tin")
  k_with "UnrEnd" => (k_dflt (first   | (refine' unr_at [] ?wF ?wN ?wo1 ?wo2 ?_; (case wF => k_asm); (case wN => k_asm); (case wo1 => k_all); (case wo2 => k_all))   | (refine' unr_at [_] ?wF ?wN ?wo1 ?wo2 ?_; (case wF => k_asm); (case wN => k_asm); (case wo1 => k_all); (case wo2 => k_all))   | (refine' unr_at [_, _] ?wF ?wN ?wo1 ?wo2 ?_; (case wF => k_asm); (case wN => k_asm); (case wo1 => k_all); (case wo2 => k_all))   | (refine' unr_at [_, _, _] ?wF ?wN ?wo1 ?wo2 ?_; (case wF => k_asm); (case wN => k_asm); (case wo1 => k_all); (case wo2 => k_all))   | (refine' unr_at [_, _, _, _] ?wF ?wN ?wo1 ?wo2 ?_; (case wF => k_asm); (case wN => k_asm); (case wo1 => k_all); (case wo2 => k_all))   | (refine' unr_at [_, _, _, _, _] ?wF ?wN ?wo1 ?wo2 ?_; (case wF => k_asm); (case wN => k_asm); (case wo1 => k_all); (case wo2 => k_all))   | (refine' unr_at [_, _, _, _, _, _] ?wF ?wN ?wo1 ?wo2 ?_; (case wF => k_asm); (case wN => k_asm); (case wo1 => k_all); (case wo2 => k_all))); (try dsimp only [List.cons_append, List.nil_append]); (refine ⟨by k_mem, ?_⟩))
  k_with "pyIter ref" => ((with_reducible show wpAny _ _ (pyIter (Value.ref _)) (fun it s₂ => LoopAtV _ _ _ _ _ _ _ _ _ it s₂) _ _); k_dflt (first | (refine' iter_listUnr rfl ?wF ?wN ?whm ?whc ?whd ?_; (case wF => k_asm); (case wN => k_asm); (case whm => k_mem); (case whc => exact rfl); (case whd => exact rfl)) | (refine' iter_listUnr (vs := [_]) rfl ?wF ?wN ?whm ?whc ?whd ?_; (case wF => k_asm); (case wN => k_asm); (case whm => k_mem); (case whc => exact rfl); (case whd => exact rfl))); intro _ wlI; (try k_lt wlI); (revert wlI; intro _))
  k_with "exec For" => ((with_unfolding_all refine' For_invVF (by k_asm) ?wk1 ?wk2 ?_; (case wk1 => exact rfl); (case wk2 => exact rfl); k_whole))
  k_with "ite" => first
    | with_reducible refine ite_eqp (by first | assumption | omega) ?_ | with_reducible refine ite_eqn (by first | assumption | omega) ?_
    | with_reducible refine ite_nep (by first | assumption | omega) ?_ | with_reducible refine ite_nen (by first | assumption | omega) ?_
    | with_reducible refine ite_decp (by first | assumption | omega) ?_ | with_reducible refine ite_decn (by first | assumption | omega) ?_
  k_with "call builtin:list.pop" => (k_dflt (refine' pop_l ?wF ?wN ?wU ?wz ?_; (case wF => k_asm); (case wN => k_asm); (case wU => walk_at "upd"); (case wz => (simp only [List.length_append, List.length_reverse, List.length_map, List.length_cons, List.length_nil] at *; omega)); k_whole); intro _ _ wN'; (try dsimp only at wN'); (try k_sweep); (revert wN'; intro _))
  k_with "call builtin:list.append" => (k_dflt (refine' append_l ?wF ?wN ?wU ?wz ?_; (case wF => k_asm); (case wN => k_asm); (case wU => walk_at "upd"); (case wz => (simp only [List.length_append, List.length_reverse, List.length_map, List.length_cons, List.length_nil] at *; omega)); k_whole); intro _ _ wN'; (try dsimp only at wN'); (try k_sweep); (revert wN'; intro _))
  k_with "call builtin:list.extend" => (k_dflt (refine' extend_l ?wF ?wN ?wb ?wne ?wU ?wz ?_; (case wF => k_asm); (case wN => k_asm); (case wb => k_mem); (case wne => first | (simp; done) | (simp; assumption)); (case wU => k_upd); (case wz => (simp only [List.length_append, List.length_reverse, List.length_map, List.length_cons, List.length_nil] at *; omega)); k_whole); intro _ _ wN'; (try dsimp only at wN'); (try k_sweep); (revert wN'; intro _))
  k_with "subscriptTail Name Slice ref ref" => ((with_reducible show wpAny _ _ (subscriptTail _ (PySem.Expr.Slice none none (some _) _) (Value.ref _) (Value.ref _)) _ _ _); k_dflt (refine' rev_l ?wF ?wN ?wl ?wk ?wz ?_ ?ws ?wt; (case wF => k_asm); (case wN => k_asm); (case wl => k_mem); (case wk => exact IsPart.int _ _); (case ws => with_unfolding_all rfl); (case wt => kmk_pure); (case wz => (simp only [List.length_append, List.length_reverse, List.length_map, List.length_cons, List.length_nil] at *; omega))); intro _ _ _ _ wl1; (try k_lt wl1); (try dsimp only); (try k_sweep); (revert wl1; intro _))
  k_with "lt_end" => first | with_reducible assumption | exact PySem.W.ktn_ltOf (by walk_at "alllt")
  k_with "WhlIf" => first
    | (refine whlif_t (by first | rfl | (simp only [bne_iff_ne, ne_eq, beq_iff_eq, decide_eq_true_eq]; first | assumption | omega)) ?_)
    | (refine whlif_f (by first | rfl | (simp only [bne_eq_false_iff_eq, beq_eq_false_iff_ne, ne_eq, decide_eq_false_iff_not]; first | assumption | omega)) ?_)
  k_with "alllt" => first | with_reducible assumption | exact PySem.W.allLt_of (by with_reducible assumption) | with_reducible exact And.right (by assumption) | with_reducible exact And.right (And.right (by assumption)) | with_reducible exact And.right (And.right (And.right (by assumption))) | with_reducible exact And.right (And.right (And.right (And.right (by assumption)))) | with_reducible exact And.right (And.right (And.right (And.right (And.right (by assumption))))) | with_reducible exact And.right (And.right (And.right (And.right (And.right (And.right (by assumption)))))) | with_reducible exact And.right (And.right (And.right (And.right (And.right (And.right (And.right (by assumption))))))) | with_reducible exact And.right (And.right (And.right (And.right (And.right (And.right (And.right (And.right (by assumption))))))))
  k_with "off" => first | with_reducible assumption | exact List.forall_mem_nil _ | exact List.forall_mem_cons.mpr ⟨by first | with_reducible assumption | exact ne_cell2 (by assumption) (by assumption) | exact ne_cell1 (by assumption) (by assumption) | exact ne_cell3 (by assumption) (by assumption) | exact ne_all (by walk_at "alllt") (by assumption) | k_ne, by walk_at "off"⟩ | exact fun p hp => Nat.ne_of_lt (ktn_ltOf (by walk_at "alllt") p hp) | k_all
  k_with "upd" => first | with_reducible assumption | exact Upd.head (by walk_at "off") | exact Upd.tail (by first | with_reducible assumption | exact ne_cell2 (by assumption) (by assumption) | exact ne_cell1 (by assumption) (by assumption) | exact ne_cell3 (by assumption) (by assumption) | exact ne_all (by walk_at "alllt") (by assumption) | k_ne) (by walk_at "upd") | k_upd
  k_with "getAttr ref" => (k_dflt (first
    | (with_reducible refine' gw_num ?wF ?wX ?wN ?wh1 ?wh2 ?_; (case wF => k_asm); (case wX => k_asm); (case wN => k_asm); (case wh1 => k_mem); (case wh2 => k_mem))
    | (with_reducible refine' gw_sort ?wF ?wX ?wN ?wh1 ?wh2 ?_; (case wF => k_asm); (case wX => k_asm); (case wN => k_asm); (case wh1 => k_mem); (case wh2 => k_mem))
    | (with_reducible refine' gw_par ?wF ?wX ?wN ?wh1 ?wh2 ?_; (case wF => k_asm); (case wX => k_asm); (case wN => k_asm); (case wh1 => k_mem); (case wh2 => k_mem))
    | (with_reducible refine' gw_chi ?wF ?wX ?wN ?wh1 ?wh2 ?_; (case wF => k_asm); (case wX => k_asm); (case wN => k_asm); (case wh1 => k_mem); (case wh2 => k_mem))
    | (with_reducible refine' gw_left ?wF ?wX ?wN ?wh1 ?wh2 ?_; (case wF => k_asm); (case wX => k_asm); (case wN => k_asm); (case wh1 => k_mem); (case wh2 => k_mem))
    | (with_reducible refine' gw_top ?wF ?wX ?wN ?wh1 ?wh2 ?_; (case wF => k_asm); (case wX => k_asm); (case wN => k_asm); (case wh1 => k_mem); (case wh2 => k_mem))
    | (with_reducible refine' gw_wid ?wF ?wX ?wN ?wh1 ?wh2 ?_; (case wF => k_asm); (case wX => k_asm); (case wN => k_asm); (case wh1 => k_mem); (case wh2 => k_mem))
    | (with_reducible refine' gw_hei ?wF ?wX ?wN ?wh1 ?wh2 ?_; (case wF => k_asm); (case wX => k_asm); (case wN => k_asm); (case wh1 => k_mem); (case wh2 => k_mem))); k_whole)
  k_with "getAttr ref" => (k_dflt (first
    | (with_reducible refine' gt_windows ?wF ?wX ?wN ?wh1 ?wh2 ?_; (case wF => k_asm); (case wX => k_asm); (case wN => k_asm); (case wh1 => k_mem); (case wh2 => k_mem))
    | (with_reducible refine' gt_lw ?wF ?wX ?wN ?wh1 ?wh2 ?_; (case wF => k_asm); (case wX => k_asm); (case wN => k_asm); (case wh1 => k_mem); (case wh2 => k_mem))
    | (with_reducible refine' gt_lh ?wF ?wX ?wN ?wh1 ?wh2 ?_; (case wF => k_asm); (case wX => k_asm); (case wN => k_asm); (case wh1 => k_mem); (case wh2 => k_mem))
    | (with_reducible refine' gt_root ?wF ?wX ?wN ?wh1 ?wh2 ?_; (case wF => k_asm); (case wX => k_asm); (case wN => k_asm); (case wh1 => k_mem); (case wh2 => k_mem))); k_whole)
  k_with "setAttr ref" => (k_dflt (first
    | (with_reducible refine' sw_wid ?wF ?wX ?wN ?wh1 ?wh2 ?wU ?_; (case wF => k_asm); (case wX => k_asm); (case wN => k_asm); (case wh1 => k_mem); (case wh2 => k_mem); (case wU => walk_at "upd"))
    | (with_reducible refine' sw_hei ?wF ?wX ?wN ?wh1 ?wh2 ?wU ?_; (case wF => k_asm); (case wX => k_asm); (case wN => k_asm); (case wh1 => k_mem); (case wh2 => k_mem); (case wU => walk_at "upd"))
    | (with_reducible refine' sw_left ?wF ?wX ?wN ?wh1 ?wh2 ?wU ?_; (case wF => k_asm); (case wX => k_asm); (case wN => k_asm); (case wh1 => k_mem); (case wh2 => k_mem); (case wU => walk_at "upd"))
    | (with_reducible refine' sw_top ?wF ?wX ?wN ?wh1 ?wh2 ?wU ?_; (case wF => k_asm); (case wX => k_asm); (case wN => k_asm); (case wh1 => k_mem); (case wh2 => k_mem); (case wU => walk_at "upd"))
    | (with_reducible refine' sw_par ?wF ?wX ?wN ?wh1 ?wh2 ?wU ?_; (case wF => k_asm); (case wX => k_asm); (case wN => k_asm); (case wh1 => k_mem); (case wh2 => k_mem); (case wU => walk_at "upd"))); k_whole; intro _ _ _; (try k_sweep))
  trivial

theorem words_21 : True := by
  k_with "call builtin:list.index" => (k_dflt (refine' kf_index ?wN ?wm ?wi ?we ?wc ?wz ?_; (case wN => k_asm); (case wm => k_mem); (case wi => exact kids_ints _); (case we => exact kids_at (by assumption)); (case wc => exact rfl); (case wz => exact kids_size (by (first | assumption | (simp only [List.length_append, List.length_cons, List.length_reverse, List.length_map, List.length_nil] at *; omega))))))
  k_with "subscriptTail Name Slice ref ref" => ((with_reducible show wpAny _ _ (subscriptTail _ (PySem.Expr.Slice _ _ none _) (Value.ref _) (Value.ref _)) _ _ _); k_dflt (refine' kms_slice_lit ?wF ?wN ?wl ?wp ?wq ?we ?_ ?ws ?wt ?wz; (case wF => k_asm); (case wN => k_asm); (case wl => kmk_list); (case wp => kmk_part); (case wq => kmk_part); (case we => first | exact pick_from | exact pick_to); (case ws => with_unfolding_all rfl); (case wt => kmk_pure); (case wz => exact kids_size' (by (first | assumption | (simp only [List.length_append, List.length_cons, List.length_reverse, List.length_map, List.length_nil] at *; omega))))); intro _ _ _ _ wl1; (try k_lt wl1); (try dsimp only); (try k_sweep); (revert wl1; intro _))
  k_with "subscriptTail Subscript" => ((with_reducible show wpAny _ _ (subscriptTail _ (PySem.Expr.Slice _ _ _ _) _ _) _ _ _); k_dflt (refine kba_turn (value' := PySem.Expr.Name (PySem.Str.ofString "_") ⟨0, 0, 0, 0⟩) (fun _ => rfl) ?_))
  k_with "binaryOp Add ref ref" => (k_dflt (refine' kmk_add_lit ?wF ?wN ?wa ?wb ?we ?_ ?wz; (case wF => k_asm); (case wN => k_asm); (case wa => kmk_list); (case wb => kmk_list); (case we => exact rfl); (case wz => (simp only [List.length_append, List.length_cons, List.length_reverse, List.length_map, List.length_nil] at *; refine Nat.le_trans (m := 20) ?_ (by decide); omega))); intro _ _ _ _ wl1; (try k_lt wl1); (try dsimp only); (try k_sweep); (revert wl1; intro _))
  k_with "eval ListComp" => (k_dflt (refine LCg.ListComp_U (F₀ := by k_asm) (by with_unfolding_all rfl) (by decide) (by rfl) (by decide) (by rfl) ?_))
  k_with "CompSrc" => (k_dflt (refine LCg.CompSrc.ledger (by rfl) (by k_asm) (by k_asm) (by k_mem) (by first | exact Nat.le_of_ble_eq_true rfl | (simp only [List.size_toArray, List.length_append, List.length_cons, List.length_reverse, List.length_map, List.length_nil] at *; refine Nat.le_trans (m := 20) ?_ (by decide); omega)) ?_); intro _)
  k_with "call builtin:sum" => ((with_reducible show wpAny _ _ (call (Value.builtin "sum") [Value.ref _]) _ _ _); k_dflt (refine' sumK ?wk0 ?wk1 ?wk2 ?wk3 ?wk4 ?_; (case wk0 => with_unfolding_all rfl); (case wk1 => k_asm); (case wk2 => k_asm); (case wk3 => kmk_list); (case wk4 => assumption); k_whole); intro _ _ _ _ _)
  k_with "exec Assign cons ListComp" => (with_reducible refine' wpAny_Assign_Name ?_ ?whs; (case whs => with_unfolding_all rfl))
  k_with "call ref" => ((with_reducible show wpAny _ _ (call (Value.ref 62) _) _ _ _); k_dflt (refine' size_c ?wB ?wF ?wX ?wN ?wT ?whk ?whd ?whu ?whw ?_; (case wB => k_asm); (case wF => k_asm); (case wX => k_asm); (case wN => k_asm); (case wT => k_asm); (case whk => first | exact rfl | assumption); (case whd => ktr_room); (case whu => ktr_units); (case whw => walk_at "tin"); k_whole); intro _ _ _ _ _; (try k_sweep))
  k_with "call ref" => ((with_reducible show wpAny _ _ (call (Value.ref 76) _) _ _ _); k_dflt (refine' place_c ?wB ?wF ?wX ?wN ?wT ?whk ?whd ?whu ?whw ?_; (case wB => k_asm); (case wF => k_asm); (case wX => k_asm); (case wN => k_asm); (case wT => k_asm); (case whk => first | exact rfl | assumption); (case whd => ktr_room); (case whu => ktr_units); (case whw => walk_at "tin"); k_whole); intro _ _ _ _ _; (try k_sweep))
  k_with "call ref" => ((with_reducible show wpAny _ _ (call (Value.ref 154) _) _ _ _); k_dflt (refine' least_leaf_c ?wB ?wF ?wX ?wN ?wT ?whk ?whd ?whu ?wht ?_; (case wB => k_asm); (case wF => k_asm); (case wX => k_asm); (case wN => k_asm); (case wT => k_asm); (case whk => first | exact rfl | assumption); (case whd => ktr_room); (case whu => ktr_units); (case wht => walk_at "tin"); k_whole); intro _ _ _ _ _; (try k_sweep))
  k_with "call ref" => ((with_reducible show wpAny _ _ (call (Value.ref 175) _) _ _ _); k_dflt (refine' along_c ?wB ?wF ?wX ?wN ?wT ?whk ?whd ?whu  ?_; (case wB => k_asm); (case wF => k_asm); (case wX => k_asm); (case wN => k_asm); (case wT => k_asm); (case whk => first | exact rfl | assumption); (case whd => ktr_room); (case whu => ktr_units);  k_whole); intro _ _ _ _ _; (try k_sweep))
  k_with "call ref" => ((with_reducible show wpAny _ _ (call (Value.ref 126) _) _ _ _); k_dflt (refine' window_c ?wB ?wF ?wX ?wN ?wT ?whk ?whd ?whu ?wht ?whv ?_; (case wB => k_asm); (case wF => k_asm); (case wX => k_asm); (case wN => k_asm); (case wT => k_asm); (case whk => first | exact rfl | assumption); (case whd => ktr_room); (case whu => ktr_units); (case wht => walk_at "tin"); (case whv => k_asm); k_whole); intro _ _ _ _; (try k_sweep))
  k_with "call ref" => ((with_reducible show wpAny _ _ (call (Value.ref 203) _) _ _ _); k_dflt (refine' windows_under_c ?wB ?wF ?wX ?wN ?wT ?whk ?whd ?whu ?wht ?whv ?whw ?whc ?_; (case wB => k_asm); (case wF => k_asm); (case wX => k_asm); (case wN => k_asm); (case wT => k_asm); (case whk => first | exact rfl | assumption); (case whd => ktr_room); (case whu => ktr_units); (case wht => walk_at "tin"); (case whv => k_asm); (case whw => walk_at "tin"); (case whc => k_mem); k_whole); intro _ _ _ _ _ _ _ wl1; (try k_lt wl1); (try k_sweep); (revert wl1; intro _))
  k_with "call ref" => ((with_reducible show wpAny _ _ (call (Value.ref 196) _) _ _ _); k_dflt (refine' leaves_c ?wB ?wF ?wX ?wN ?wT ?whk ?whd ?whu ?wS ?_; (case wB => k_asm); (case wF => k_asm); (case wX => k_asm); (case wN => k_asm); (case wT => k_asm); (case whk => first | exact rfl | assumption); (case whd => ktr_room); (case whu => ktr_units); (case wS => walk_at "tin"); k_whole); intro _ _ _ _ _ _ wl1; (try k_lt wl1); (try k_sweep); (revert wl1; intro _))
  trivial


theorem ne_same {prog : Program} {w : World} {A : Around} {E : Value → Shared → Prop} {s : Shared} {a b : Addr} {vs us : List Value} {ns : List Int} {Q : Value → Shared → Prop} (hl : s.heap.IsList a vs.toArray) (hi : IntsAre vs ns) (hl' : s.heap.IsList b us.toArray) (hi' : IntsAre us ns) (hu : A.units + 64 < cLine)
    (h : Q (.bool false) s) : wpAny (model prog w) A (compareOp .NotEq (.ref a) (.ref b)) Q E s := ne_intsK hl hi hl' hi' hu (by rw [decide_eq_true rfl]; exact h)
theorem zr_small {n : Nat} (h : n ≤ 20) : Builtin.Range.small 0 (n : Int) 1 = true := small_one (by omega) (by omega) (by omega) (by omega)
theorem zr_size {n : Nat} : Builtin.Range.rangeSize 0 (n : Int) 1 = ((n : Nat) : Int) := by rw [rangeSize_nat]; omega
theorem pick_take {rv : List Value} {i : Nat} : kms_pick rv.toArray.toList none (some (0 + (i : Int))) = rv.take i := by
  unfold kms_pick kms_lo kms_hi
  have : ¬ (0 + (i : Int) < 0) := by omega
  simp only [this, if_false]
  simp
theorem IntsAre.takeN {vs : List Value} {ns : List Int} (h : IntsAre vs ns) (i : Nat) : IntsAre (vs.take i) (ns.take i) := by
  induction h generalizing i with
  | nil => simp only [List.take_nil]; exact .nil
  | cons n t _ ih =>
    cases i with
    | zero => exact .nil
    | succ i => exact .cons _ _ (ih i)
theorem pl_list0 {ax : Int} : ∀ {kids : List Kid} {o : Int}, PlK ax o kids → kids.map (fun k => k.1.place ax) = (List.range kids.length).map fun i => o + ((kids.map fun k => k.1.size ax).take i).sum
  | [], _, _ => rfl
  | k :: r, o, h => by
    rw [List.map_cons, List.length_cons, List.range_succ_eq_map, List.map_cons, List.map_map, pl_list0 h.2, h.1]
    congr 1
    · simp
    · refine List.map_congr_left fun i _ => ?_
      simp only [Function.comp, List.map_cons, List.take_succ_cons, List.sum_cons]
      omega
theorem pl_list {ax : Int} {kids : List Kid} (h : PlK ax 0 kids) : kids.map (fun k => k.1.place ax) = (List.range kids.length).map fun i => ((kids.map fun k => k.1.size ax).take i).sum := by
  rw [pl_list0 h]
  exact List.map_congr_left fun i _ => Int.zero_add _

theorem fid_at {l : List Kid} {i : Nat} {v : Value} (h : (l.map fv).toArray[i]? = some v) : ∃ q, l[i]? = some q ∧ fv q = v := by
  simp only [List.getElem?_toArray, List.getElem?_map, Option.map_eq_some_iff] at h
  exact h
theorem words_22 : True := by
  k_with "compareOp NotEq ref ref" => (k_dflt (refine' ne_same ?wa ?wi ?wb ?wj ?wu ?_; (case wa => kmk_list); (case wi => with_reducible assumption); (case wb => kmk_list); (case wj => with_reducible assumption); (case wu => ktr_units); k_whole))
  k_with "CompSrc" => (k_dflt (refine LCg.CompSrc.range (by rfl) (by k_asm) (by k_asm) (by assumption) (zr_small (by omega)) zr_size (by (rw [PySem.sizeLine_eq]; omega)) ?_); intro _)
  k_with "subscriptTail Name Slice ref ref" => ((with_reducible show wpAny _ _ (subscriptTail _ (PySem.Expr.Slice none (some _) none _) (Value.ref _) (Value.ref _)) _ _ _); k_dflt (refine' kms_slice_lit ?wF ?wN ?wl ?wp ?wq ?we ?_ ?ws ?wt ?wz; (case wF => k_asm); (case wN => k_asm); (case wl => kmk_list); (case wp => kmk_part); (case wq => kmk_part); (case we => exact pick_take); (case ws => with_unfolding_all rfl); (case wt => kmk_pure); (case wz => (rw [List.size_toArray, IntsAre.length (by with_reducible assumption), List.length_map, PySem.sizeLine_eq]; omega))); intro _ _ _ _ wl1; (try k_lt wl1); (try dsimp only); (try k_sweep); (revert wl1; intro _))
  k_with "call builtin:sum" => ((with_reducible show wpAny _ _ (call (Value.builtin "sum") [Value.ref _]) _ _ _); k_dflt (refine' sumK ?wk0 ?wk1 ?wk2 ?wk3 ?wk4 ?_; (case wk0 => with_unfolding_all rfl); (case wk1 => k_asm); (case wk2 => k_asm); (case wk3 => kmk_list); (case wk4 => exact (by assumption : ∀ i : Nat, IntsAre (List.take i _) _) _); k_whole); intro _ _ _ _ _)
  trivial

set_option maxRecDepth 100000 in
set_option maxHeartbeats 8000000 in
theorem check_c {w : World} {p : Program} {loose : List Str} {mean : ExcName → Option Value} {mg mb : Str → Option Value} {g : Heap} {L f : Addr} {cdv : Value} {m : Str → Option Value} {s : Shared} {Q : Flow → Shared → Prop} {E : Value → Shared → Prop} {V : Tre} {R : Win} {kids : List Kid} {bs : List (Addr × Obj)} {oa ol orr ot : Obj} {ax le : Int} {ta tl tm : Tok} {rl dk : Addr} {rv : List Value} {n mN : Nat}
    (B : Below callerA g [] g) (F : Fr g L s.heap m) (X : (Mine.hd.heap_39 w.params).In g) (T : Top p loose mean mg mb g)
    (N : News g L s.heap (led w.params R kids bs)) (Bs : Ba w bs V R kids) (hm1 : m (Str.ofString "many") = some (.int (mN : Int) tm)) (hm2 : m (Str.ofString "deck") = some (.ref dk)) (ha : (L + 1, oa) ∈ bs) (ha2 : oa.data = .cell (some (.int ax ta))) (hl : (L + 1 + 1, ol) ∈ bs) (hl2 : ol.data = .cell (some (.int le tl))) (hr : (L + 1 + 1 + 1, orr) ∈ bs) (hr2 : orr.data = .cell (some (.ref rl))) (ht : (L + 1 + 1 + 1 + 1, ot) ∈ bs) (ht2 : ot.data = .cell (some (.ref V.x))) (hrl : (rl, listOf rv.toArray n) ∈ bs) (hi : IntsAre rv (kids.map (·.1.size ax))) (hp : PlK ax 0 kids) (hlen : kids.length = mN)
    (hret : ∀ (h9 : Heap) (tk9 : Nat) (m' : Str → Option Value), Fr g L h9 m' → m' (Str.ofString "many") = some (.int (mN : Int) tm) → m' (Str.ofString "deck") = some (.ref dk) → News g L h9 (led w.params R kids bs) → Q .next { s with heap := h9, toks := tk9 }) :
    wpAny (model PySem.Challenge.rw_np0057_01.row.prog w) (callerA.deeper (lawE L f cdv)) (execs (((forB 9).drop 3)) (lawE L f cdv)) Q E s := by
  unfold lawE
  conv in (occs := *) lawS => all_goals whnf
  conv in ((forB 9).drop 3) => whnf
  obtain ⟨news, hn⟩ : ∃ news, news = led w.params R kids bs := ⟨_, rfl⟩
  rw [← hn] at N
  have hb : ∀ q ∈ bs, q ∈ news := fun q hq => by rw [hn]; exact led_base hq
  have S : St w news V R kids := by rw [hn]; exact Bs.st
  have hlen10 := Bs.len
  have hti : ∀ i : Nat, IntsAre (rv.take i) ((kids.map fun k => k.1.size ax).take i) := fun i => IntsAre.takeN hi i
  have hmN : mN ≤ 10 := by omega
  have ha := hb _ ha
  have hl := hb _ hl
  have hr := hb _ hr
  have ht := hb _ ht
  have hrl := hb _ hrl
  repeat' (first | (k_unfold; (try dsimp only)) | ((fail_if_success (with_reducible show wpAny _ _ (exec (Stmt.While _ _ _ _) _) _ _ _)); (fail_if_success (with_reducible show WhlRest _ _ _ _ _ _ _ _ _ _ _)); (fail_if_success (with_reducible show WStep _ _ _ _ _ _)); first | walk1 | (dsimp only; walk1)))
  have ht0 := S.tre
  refine comp_ind (fun i ys => IntsAre ys ((kids.take i).map fun k => k.1.size ax)) .nil (Or.inr ⟨_, by k_mem, rfl, _, rfl⟩) ?turn ?done
  case turn =>
    intro i ys hi hys v I oI C oC D m₂ h tk E' hP hoC hx F2 N2 off ne
    obtain ⟨⟨W2, t2⟩, hq, hv⟩ := fid_at hP
    subst hv
    have hmem : (W2, t2) ∈ kids := List.mem_of_getElem? hq
    obtain ⟨⟨hw1, hw2⟩, hv, hs, ⟨cep, hc⟩⟩ := S.leaf _ hmem
    obtain ⟨ht1, ht2, ht3, ht4, ht5⟩ := S.tre
    have hw0 : WinIn w.params news W2 := ⟨hw1, hw2⟩
    repeat' (first | (k_unfold; (try dsimp only)) | ((fail_if_success (with_reducible show wpAny _ _ (exec (Stmt.While _ _ _ _) _) _ _ _)); (fail_if_success (with_reducible show WhlRest _ _ _ _ _ _ _ _ _ _ _)); (fail_if_success (with_reducible show WStep _ _ _ _ _ _)); first | walk1 | (dsimp only; walk1)))
    rename News _ _ _ _ => N3
    rename Fr _ _ _ _ => F3
    exact CStep.intro F3 N3 (fun p hp => hp) (ints_snoc (f := fun k => k.1.size ax) hys hq)
  case done =>
    intro ys hys
    have hys' : IntsAre ys (kids.map fun k => k.1.size ax) := by rwa [List.take_of_length_le (by simp)] at hys
    intro D h tk F3 N3 off
    repeat' (first | (k_unfold; (try dsimp only)) | ((fail_if_success (with_reducible show wpAny _ _ (exec (Stmt.While _ _ _ _) _) _ _ _)); (fail_if_success (with_reducible show WhlRest _ _ _ _ _ _ _ _ _ _ _)); (fail_if_success (with_reducible show WStep _ _ _ _ _ _)); first | walk1 | (dsimp only; walk1)))
    rename Fr _ _ _ _ => F4
    rename News _ _ _ _ => N4
    refine comp_ind (fun i ys => IntsAre ys ((kids.take i).map fun k => k.1.place ax)) .nil (Or.inr ⟨_, by k_mem, rfl, _, rfl⟩) ?turn ?done
    case turn =>
      intro i ys hi hys v I oI C oC D m₂ h tk E' hP hoC hx F2 N2 off ne
      obtain ⟨⟨W2, t2⟩, hq, hv⟩ := fid_at hP
      subst hv
      have hmem : (W2, t2) ∈ kids := List.mem_of_getElem? hq
      obtain ⟨⟨hw1, hw2⟩, hv, hs, ⟨cep, hc⟩⟩ := S.leaf _ hmem
      obtain ⟨ht1, ht2, ht3, ht4, ht5⟩ := S.tre
      have hw0 : WinIn w.params news W2 := ⟨hw1, hw2⟩
      repeat' (first | (k_unfold; (try dsimp only)) | ((fail_if_success (with_reducible show wpAny _ _ (exec (Stmt.While _ _ _ _) _) _ _ _)); (fail_if_success (with_reducible show WhlRest _ _ _ _ _ _ _ _ _ _ _)); (fail_if_success (with_reducible show WStep _ _ _ _ _ _)); first | walk1 | (dsimp only; walk1)))
      rename News _ _ _ _ => N3
      rename Fr _ _ _ _ => F3
      exact CStep.intro F3 N3 (fun p hp => hp) (ints_snoc (f := fun k => k.1.place ax) hys hq)
    case done =>
      intro ys2 hys2
      have hys2' : IntsAre ys2 (kids.map fun k => k.1.place ax) := by rwa [List.take_of_length_le (by simp)] at hys2
      rw [pl_list hp, hlen] at hys2'
      intro D2 h tk F5 N5 off2
      repeat' (first | (k_unfold; (try dsimp only)) | ((fail_if_success (with_reducible show wpAny _ _ (exec (Stmt.While _ _ _ _) _) _ _ _)); (fail_if_success (with_reducible show WhlRest _ _ _ _ _ _ _ _ _ _ _)); (fail_if_success (with_reducible show WStep _ _ _ _ _ _)); first | walk1 | (dsimp only; walk1)))
      rename Fr _ _ _ _ => F6
      rename News _ _ _ _ => N6
      refine comp_ind (fun i ys => IntsAre ys ((List.range mN).take i |>.map fun i => ((kids.map fun k => k.1.size ax).take i).sum)) .nil trivial ?turn ?done
      case turn =>
        intro i ys hi3 hys v I oI C oC D m₂ h tk E' hP hoC hx F2 N2 off ne
        obtain ⟨t3, rfl⟩ := hP
        repeat' (first | (k_unfold; (try dsimp only)) | ((fail_if_success (with_reducible show wpAny _ _ (exec (Stmt.While _ _ _ _) _) _ _ _)); (fail_if_success (with_reducible show WhlRest _ _ _ _ _ _ _ _ _ _ _)); (fail_if_success (with_reducible show WStep _ _ _ _ _ _)); first | walk1 | (dsimp only; walk1)))
        rename News _ _ _ _ => N3
        rename Fr _ _ _ _ => F3
        refine CStep.intro F3 N3 (fun p hp => by k_mem) ?_
        rw [List.take_succ, List.getElem?_range hi3]
        simp only [Option.toList_some, List.map_append, List.map_cons, List.map_nil]
        exact IntsAre.snoc hys
      case done =>
        intro ys3 hys3
        have hys3' : IntsAre ys3 ((List.range mN).map fun i => ((kids.map fun k => k.1.size ax).take i).sum) := by rwa [List.take_of_length_le (by simp)] at hys3
        intro D3 h tk F7 N7 off3
        repeat' (first | (k_unfold; (try dsimp only)) | ((fail_if_success (with_reducible show wpAny _ _ (exec (Stmt.While _ _ _ _) _) _ _ _)); (fail_if_success (with_reducible show WhlRest _ _ _ _ _ _ _ _ _ _ _)); (fail_if_success (with_reducible show WStep _ _ _ _ _ _)); first | walk1 | (dsimp only; walk1)))
        rename Fr _ _ _ _ => F8
        rename News _ _ _ _ => N8
        refine hret _ _ _ F8 hm1 hm2 ?_
        rw [← hn]
        exact cb_drop N8 (fun p hp => by k_mem)



end PartD19
section PartPlain2

theorem getD_set_ne {f : List Int} {i j : Nat} {v : Int} (h : i ≠ j) : (f.set i v).getD j 0 = f.getD j 0 := by
  rw [List.getD_eq_getElem?_getD, List.getD_eq_getElem?_getD, List.getElem?_set_ne h]
theorem idxs_nodup {a b : Nat} : (idxs a b).Nodup := by
  unfold idxs
  rw [List.nodup_append]
  refine ⟨?_, List.pairwise_reverse.mpr (List.nodup_range.imp Ne.symm), fun x hx y hy e => ?_⟩
  · refine List.pairwise_map.mpr (List.nodup_range.imp fun {x y} h e => h (by omega))
  · obtain ⟨j, hj, rfl⟩ := List.mem_map.mp hx
    have := List.mem_range.mp (List.mem_reverse.mp hy)
    omega
theorem take_give {le : Int} : ∀ {l : List Nat} {f : List Int} {left : Int}, 0 ≤ left → (∀ i ∈ l, le ≤ f.getD i 0) → l.Nodup →
    (takeL le left l f).2 = giveL le left l f ∧ (takeL le left l f).1 = (if left ≤ (l.map fun i => f.getD i 0 - le).sum then 0 else left - (l.map fun i => f.getD i 0 - le).sum) ∧ 0 ≤ (l.map fun i => f.getD i 0 - le).sum
  | [], f, left, h0, _, _ => by
    refine ⟨rfl, ?_, by simp⟩
    unfold takeL
    simp only [List.map_nil, List.sum_nil]
    split <;> omega
  | i :: r, f, left, h0, hge, nd => by
    have hi := hge i (.head _)
    have nd' := List.nodup_cons.mp nd
    unfold takeL giveL
    have key : ∀ v : Int, (r.map fun j => (f.set i v).getD j 0 - le) = r.map fun j => f.getD j 0 - le := fun v => List.map_congr_left fun j hj => by
      rw [getD_set_ne (fun e => nd'.1 (by rw [e]; exact hj))]
    have hge' : ∀ v : Int, ∀ j ∈ r, le ≤ (f.set i v).getD j 0 := fun v j hj => by
      rw [getD_set_ne (fun e => nd'.1 (by rw [e]; exact hj))]
      exact hge j (.tail _ hj)
    simp only [List.map_cons, List.sum_cons]
    by_cases hl : left > 0
    · simp only [if_pos hl]
      by_cases hc : f.getD i 0 - le < left
      · simp only [if_pos hc]
        obtain ⟨h1, h2, h3⟩ := take_give (l := r) (f := f.set i (f.getD i 0 - (f.getD i 0 - le))) (left := left - (f.getD i 0 - le)) (by omega) (hge' _) nd'.2
        rw [key] at h2 h3
        refine ⟨h1, ?_, by omega⟩
        rw [h2]
        split <;> split <;> omega
      · simp only [if_neg hc]
        obtain ⟨h1, h2, h3⟩ := take_give (l := r) (f := f.set i (f.getD i 0 - left)) (left := left - left) (by omega) (hge' _) nd'.2
        rw [key] at h2 h3
        refine ⟨h1, ?_, by omega⟩
        rw [h2]
        split <;> split <;> omega
    · have hz : left = 0 := by omega
      subst hz
      have hc : ¬ f.getD i 0 - le < 0 := by omega
      simp only [if_neg hl, if_neg hc]
      obtain ⟨h1, h2, h3⟩ := take_give (l := r) (f := f.set i (f.getD i 0 - 0)) (left := 0 - 0) (by omega) (hge' _) nd'.2
      rw [key] at h2 h3
      refine ⟨h1, ?_, by omega⟩
      rw [h2]
      split <;> split <;> omega
theorem give_getD {le : Int} {a : Nat} : ∀ {l : List Nat} {f : List Int} {left : Int}, a ∉ l → (giveL le left l f).getD a 0 = f.getD a 0
  | [], _, _, _ => rfl
  | i :: r, f, left, h => by
    unfold giveL
    rw [give_getD (fun hm => h (.tail _ hm))]
    exact getD_set_ne (fun e => h (by rw [← e]; exact .head _))
theorem give_len {le : Int} : ∀ {l : List Nat} {f : List Int} {left : Int}, (giveL le left l f).length = f.length
  | [], _, _ => rfl
  | i :: r, f, left => by
    unfold giveL
    rw [give_len, List.length_set]
theorem getD_set_self {f : List Int} {i : Nat} {v : Int} (h : i < f.length) : (f.set i v).getD i 0 = v := by
  rw [List.getD_eq_getElem?_getD, List.getElem?_set_self h]
  rfl
theorem give_ge {le : Int} : ∀ {l : List Nat} {f : List Int} {left : Int}, (∀ i, i < f.length → le ≤ f.getD i 0) → ∀ i, i < f.length → le ≤ (giveL le left l f).getD i 0
  | [], _, _, h => h
  | j :: r, f, left, h => fun i hi => by
    unfold giveL
    refine give_ge (fun k hk => ?_) i (by rw [List.length_set]; exact hi)
    rw [List.length_set] at hk
    by_cases e : j = k
    · subst e
      rw [getD_set_self hk]
      have := h j hk
      split
      · split <;> omega
      · omega
    · rw [getD_set_ne e]
      exact h k hk
theorem after_ge {le v : Int} {a : Nat} {l : List Nat} {f : List Int} {left : Int} (h : ∀ i, i < f.length → le ≤ f.getD i 0) (hv : le ≤ v) : ∀ i, i < ((giveL le left l f).set a v).length → le ≤ ((giveL le left l f).set a v).getD i 0 := fun i hi => by
  rw [List.length_set] at hi
  by_cases e : a = i
  · subst e; rw [getD_set_self hi]; exact hv
  · rw [getD_set_ne e]
    rw [give_len] at hi
    exact give_ge h i hi
/-- the sum over the others, in both orders -/
theorem others_sum {a9 b9 : List Kid} {p : Kid} {ax le : Int} : ((idxs a9.length b9.length).map fun i => ((a9 ++ p :: b9).map (·.1.size ax)).getD i 0 - le).sum = ((b9 ++ a9.reverse).map fun k => k.1.size ax - le).sum := by
  have e := idxs_get (A := a9.map (·.1.size ax)) (B := b9.map (·.1.size ax)) (x := p.1.size ax) (d := (0 : Int))
  rw [List.length_map, List.length_map] at e
  have e2 : ((idxs a9.length b9.length).map fun i => ((a9 ++ p :: b9).map (·.1.size ax)).getD i 0 - le) = ((idxs a9.length b9.length).map fun i => (a9.map (·.1.size ax) ++ p.1.size ax :: b9.map (·.1.size ax)).getD i 0).map fun z => z - le := by
    rw [List.map_map, List.map_append, List.map_cons]
    rfl
  rw [e2, e, ← List.map_reverse, ← List.map_append, List.map_map]
  rfl
theorem sum_mid {a9 b9 : List Kid} {p : Kid} {ax le : Int} : (((a9 ++ p :: b9).map (·.1.size ax)).map (· - le)).sum - (p.1.size ax - le) = ((b9 ++ a9.reverse).map fun k => k.1.size ax - le).sum := by
  rw [List.map_map, show ((fun x => x - le) ∘ fun k : Kid => k.1.size ax) = fun k : Kid => k.1.size ax - le from rfl]
  simp only [List.map_append, List.map_cons, List.sum_append, List.sum_cons, List.map_reverse, List.sum_reverse]
  omega
theorem taken_give {le dl S : Int} {a b : Nat} {rs : List Int} (hlen : rs.length = a + 1 + b) (hab : 1 ≤ a + b) (hge : ∀ i, i < rs.length → le ≤ rs.getD i 0) (hS : ((idxs a b).map fun i => rs.getD i 0 - le).sum = S) :
    0 ≤ S ∧ ((S < dl ∨ rs.getD a 0 + dl < le) → takenF le a b rs dl = none) ∧ (¬ (S < dl ∨ rs.getD a 0 + dl < le) → takenF le a b rs dl = some ((giveL le dl (idxs a b) rs).set a (rs.getD a 0 + dl))) := by
  have hai : a ∉ idxs a b := fun h => (idxs_lt h).2 rfl
  have hgi : ∀ i ∈ idxs a b, le ≤ rs.getD i 0 := fun i hi => hge i (by rw [hlen]; exact (idxs_lt hi).1)
  have hga := hge a (by omega)
  obtain ⟨_, _, h0⟩ := take_give (le := le) (l := idxs a b) (f := rs) (left := 0) (by omega) hgi idxs_nodup
  rw [hS] at h0
  refine ⟨h0, ?_⟩
  unfold takenF
  by_cases hd : dl < 0
  · rw [if_pos hd]
    obtain ⟨i0, is, e⟩ : ∃ i0 is, idxs a b = i0 :: is := by
      cases h : idxs a b with
      | nil =>
        have := congrArg List.length h
        simp [idxs] at this
        omega
      | cons x y => exact ⟨x, y, rfl⟩
    have hi0 := idxs_lt (a := a) (b := b) (i := i0) (by rw [e]; exact .head _)
    refine ⟨fun h => if_pos (by omega), fun h => ?_⟩
    rw [if_neg (by omega), e]
    simp only [List.getD_cons_zero]
    rw [getD_set_ne hi0.2]
    unfold giveL
    simp only [if_neg (show ¬ dl > 0 by omega), Int.sub_self]
    rw [giveL_zero]
    intro i hi
    rw [List.length_set, hlen]
    exact (idxs_lt (by rw [e]; exact .tail _ hi)).1
  · rw [if_neg hd]
    obtain ⟨h1, h2, _⟩ := take_give (le := le) (l := idxs a b) (f := rs) (left := dl) (by omega) hgi idxs_nodup
    rw [hS] at h2
    rw [h1, h2, give_getD hai]
    refine ⟨fun h => if_neg ?_, fun h => if_pos ?_⟩
    · rw [if_neg (by omega)]; omega
    · rw [if_pos (by omega)]


end PartPlain2
section PartExc5

section
variable {prog : Program} {w : World} {A₀ : Around} {E : Value → Shared → Prop} {s' : Shared} {h₀ h : Heap} {outer : List Env} {L a e t dx : Addr} {m : Str → Option Value} {name : Str} {scope : Scope} {cd : Value} {cl : List (Str × Addr)}
  {vs : List Value} {n : Str} {b₀ : Stmt} {suite : List Stmt} {pos np : Pos} {rest : List ExceptHandler} {Q : Flow → Shared → Prop} {news : List (Addr × Obj)} {KF : Frag} {p : Program} {loose : List Str} {mg mb : Str → Option Value} {x : Str}
theorem caught_lsX (K : Below A₀ h₀ outer h₀) (F : Fr h₀ L h m) (hsm : h.UpToSlots s'.heap) (R : RaisedD h₀ (envX name scope L a cd cl :: outer) e t dx vs news s'.heap)
    (X : KF.In h₀) (T : TopRead p loose mg mb h₀) (ex : nsIn KF mainGlobals x = some (some (.ref 38))) (hls : lsIn KF = true)
    (k : ∀ h' tk oe ws, Fr h₀ L h' (fun y => if y = n then some (.ref e) else m y) → News h₀ L h' ((e, oe) :: news) → oe.cls = .ref 38 → oe.data = .fields ws → oe.dict = some dx →
      wpAny (model prog w) ((A₀.deeper (envX name scope L a cd cl)).mark (some (.ref e))) (execs (b₀ :: suite) (envX name scope L a cd cl))
        (fun f s₄ => wpAny (model prog w) (A₀.deeper (envX name scope L a cd cl)) (do bindName (envX name scope L a cd cl) n .none; unbindBehindTheSuite (envX name scope L a cd cl) n pos) (fun _ s₅ => Q f s₅) E s₄)
        (AsSuiteRaised (model prog w) ((A₀.deeper (envX name scope L a cd cl)).mark (some (.ref e))) (envX name scope L a cd cl) n pos (notedBy (model prog w) ((A₀.deeper (envX name scope L a cd cl)).mark (some (.ref e))) (envX name scope L a cd cl) (cameBackBy (model prog w) (A₀.deeper (envX name scope L a cd cl)) (envX name scope L a cd cl) E)))
        { s' with heap := h', toks := tk })
    (hk : scope.kind = .function := by rfl) (hlo : (envX name scope L a cd cl).kindOf n = some .local := by rfl) (hx : (envX name scope L a cd cl).kindOf x = some .globalImplicit := by rfl) (hd : (x == ("__debug__" : Str)) = false := by decide) :
    wpAny (model prog w) (A₀.deeper (envX name scope L a cd cl)) (noteFrame (.ref e) (envX name scope L a cd cl))
      (fun _ s₂ => wpAny (model prog w) (A₀.deeper (envX name scope L a cd cl)) (setFlight (.ref e) none) (fun _ s₃ =>
        wpAny (model prog w) (A₀.deeper (envX name scope L a cd cl)) (handleBy (.ref e) (envX name scope L a cd cl) (.ExceptHandler (some (.Name x np)) (some n) (b₀ :: suite) pos :: rest)) Q E s₃) E s₂) E s' := by
  obtain ⟨⟨⟨B, hB, hl, hfl, hnew⟩, htup⟩, hdk⟩ := R
  have hL : B.get? L = none := by
    obtain ⟨_, ⟨L', _, hf, hn', _⟩, _⟩ := hfl.2.2.1
    obtain rfl : L = L' := Option.some.inj hf
    exact hn'
  refine look_d (Around.frames_deeper K.stack) rfl hfl hdk fun h₄ hheld₄ hsm₄ hd₄ => ?_
  refine lands_d hheld₄ hd₄ fun h₅ hheld hsm₅' hd₅ => ?_
  have hsm₅ := hsm₄.trans hsm₅'
  have hheld' := flyingW_base hB hheld
  have F₅ := F.of_stays hheld'.1 (hsm.trans hsm₅)
  obtain ⟨ob, hob, hobc⟩ := hheld'.there
  refine wpAny_handleBy_cons (codeAny_handlers_test (nameX_K F₅ X T ex ?_ hk hx hd)) (by intro q; cases q)
  refine ex15 (ls_of (X.keeps F₅.keep) hls) ?_
  intro nm q N bs sn sub ab col dd k0 k1 k2 k3 k5 mN C
  refine wpAny_excMatches_sub_self C.1 hob hobc (by decide) (codeAny_handlers_suite_as ?_)
  refine again_d hheld hd₅ fun h₆ hfl₆ hsm₆ hd₆ => ?_
  have hfl₆' := flyingW_base hB hfl₆
  have F₆ := F.of_stays hfl₆'.1 ((hsm.trans hsm₅).trans hsm₆)
  obtain ⟨oe, ws, hoe, hoec, hoed, hoe0⟩ := hfl₆'.first
  obtain ⟨oe', hoe', hdd⟩ := hd₆
  obtain rfl : oe = oe' := Option.some.inj (hoe.symm.trans hoe')
  have N₆ := News.more F₆ News.nil hoe (fun es n q => by rw [hoed] at q; cases q) hfl₆'.2.1
  have Nl : News h₀ L h₆ news := fun q hq => ⟨hfl₆.1 _ _ (hl q hq).1, (fun z => by have := (hl q hq).1; rw [z, hL] at this; cases this), (hl q hq).2⟩
  refine storeX_L F₆ (news := (e, oe) :: news) (fun q hq => ?_) (fun h₇ F₇ N₇ => ?_) hk hlo
  · rcases List.mem_cons.mp hq with rfl | hq
    · exact N₆ _ (.head _)
    · exact Nl _ hq
  · exact k h₇ _ oe ws F₇ N₇ hoec hoed hdd
end
theorem name_goesX {M : Model} {A : Around} {E : Value → Shared → Prop} {s : Shared} {h₀ : Heap} {name : Str} {scope : Scope} {L a : Addr} {cd : Value} {cl : List (Str × Addr)} {m : Str → Option Value} {news : List (Addr × Obj)} {n : Str} {pos : Pos} {Q : Unit → Shared → Prop} (F : Fr h₀ L s.heap m) (N : News h₀ L s.heap news)
    (h : ∀ h' v, Fr h₀ L h' (fun x => if x = n then v else m x) → News h₀ L h' news → Q () { s with heap := h', toks := s.toks + 1 })
    (hk : scope.kind = .function := by rfl) (hl : (envX name scope L a cd cl).kindOf n = some .local := by rfl) :
    wpAny M A (do bindName (envX name scope L a cd cl) n .none; unbindBehindTheSuite (envX name scope L a cd cl) n pos) Q E s :=
  wpAny_nameGoes_keeps hl F.ns (by show (scope.kind == .class || (scope.kind == .module && L != mainGlobals)) = false; rw [hk]; rfl) fun h' v hn hs => h h' v (F.set hn hs) (N.set hs)


end PartExc5
section PartLap

theorem Ba.push {w : World} {bs : List (Addr × Obj)} {V : Tre} {R : Win} {kids : List Kid} {a : Addr} {o : Obj} (h : Ba w bs V R kids) (h1 : a ≠ R.d) (h2 : ∀ p ∈ kids, a ≠ p.1.d) : Ba w ((a, o) :: bs) V R kids where
  tre := h.tre.cons
  rx := .tail _ h.rx
  rat := h.rat
  rchi := h.rchi.imp fun _ z => .tail _ z
  rsort := h.rsort
  rpar := h.rpar
  rnz := h.rnz
  root := h.root
  ne := h.ne
  len := h.len
  nd := h.nd
  kx := fun p hp => ⟨.tail _ (h.kx p hp).1, (h.kx p hp).2.1, (h.kx p hp).2.2.1, (h.kx p hp).2.2.2.1, (h.kx p hp).2.2.2.2.imp fun _ z => .tail _ z⟩
  rd := List.forall_mem_cons.mpr ⟨h1, h.rd⟩
  kd := fun p hp => List.forall_mem_cons.mpr ⟨h2 p hp, h.kd p hp⟩
  rk := h.rk
  dd := h.dd
  nz := h.nz
def nearB : List Stmt := match ((forB 9)[2]? : Option Stmt) with | some (.If _ b _ _) => b | _ => []
def elseB : List Stmt := match ((forB 9)[2]? : Option Stmt) with | some (.If _ _ b _) => b | _ => []
/-- the law between two deeds -/
structure LapS (w : World) (L : Addr) (ax le : Int) (mN : Nat) (dk ce : Addr) (cv : List Value) (n1 : Nat) (V : Tre) (bs : List (Addr × Obj)) (oa ol ot : Obj) (ta tl : Tok) (R : Win) (kids : List Kid) (rl : Addr) : Prop where
  ba : Ba w bs V R kids
  off : ∀ q ∈ led w.params R kids bs, q.1 ≠ dk ∧ q.1 ≠ L + 1 + 1 + 1
  offr : rl ≠ R.d ∧ ∀ p ∈ kids, rl ≠ p.1.d
  d1 : dk ≠ L + 1 + 1 + 1
  d2 : rl ≠ dk
  d3 : rl ≠ L + 1 + 1 + 1
  ce : (ce, listOf cv.toArray n1) ∈ bs
  ca : (L + 1, oa) ∈ bs
  ca2 : oa.data = .cell (some (.int ax ta))
  cl : (L + 1 + 1, ol) ∈ bs
  cl2 : ol.data = .cell (some (.int le tl))
  ct : (L + 1 + 1 + 1 + 1, ot) ∈ bs
  ct2 : ot.data = .cell (some (.ref V.x))
  hle : (if ax = 0 then V.lw else V.lh) = le
  rax : (if R.sort = 2 then (0 : Int) else 1) = ax
  pl : PlK ax 0 kids
  ge : ∀ z ∈ kids.map (·.1.size ax), le ≤ z
  len : kids.length = mN
  m2 : 2 ≤ mN
  m9 : mN ≤ 9
abbrev lapL (P : Params) (L : Addr) (dk ce : Addr) (k : Int) (tk : Tok) (n0 : Nat) (orr : Obj) (rl : Addr) (rv : List Value) (n : Nat) (R : Win) (kids : List Kid) (bs : List (Addr × Obj)) : List (Addr × Obj) :=
  (dk, listOf #[.ref ce, .int k tk] n0) :: (L + 1 + 1 + 1, orr) :: (rl, listOf rv.toArray n) :: led P R kids bs
section
variable {w : World} {L : Addr} {ax le : Int} {mN : Nat} {dk ce : Addr} {cv : List Value} {n1 : Nat} {V : Tre} {bs : List (Addr × Obj)} {oa ol ot : Obj} {ta tl : Tok} {R R' : Win} {kids kids' : List Kid} {rl rl' : Addr}
theorem LapS.move (h : LapS w L ax le mN dk ce cv n1 V bs oa ol ot ta tl R kids rl) (hR : Same R R') (hk : Kin kids kids') (pl : PlK ax 0 kids') (ge : ∀ z ∈ kids'.map (·.1.size ax), le ≤ z) : LapS w L ax le mN dk ce cv n1 V bs oa ol ot ta tl R' kids' rl :=
  { h with
    ba := h.ba.move hR hk
    off := fun q hq => by
      obtain ⟨q', hq', e⟩ := key_mem (led_keys hR hk) hq
      rw [← e]
      exact h.off q' hq'
    offr := ⟨by rw [hR.d]; exact h.offr.1, fun p hp => by
      obtain ⟨q, hq, s, _⟩ := hk.mem hp
      rw [s.d]
      exact h.offr.2 q hq⟩
    rax := by rw [hR.sort]; exact h.rax
    pl := pl
    ge := ge
    len := hk.length.trans h.len }
theorem LapS.room (h : LapS w L ax le mN dk ce cv n1 V bs oa ol ot ta tl R kids rl) (h1 : ∀ q ∈ led w.params R kids bs, q.1 ≠ rl') (h2 : rl' ≠ dk) (h3 : rl' ≠ L + 1 + 1 + 1) : LapS w L ax le mN dk ce cv n1 V bs oa ol ot ta tl R kids rl' :=
  { h with
    offr := ⟨Ne.symm (h1 _ led_root), fun p hp => Ne.symm (h1 _ (led_kid hp))⟩
    d2 := h2
    d3 := h3 }
theorem LapS.baX {o1 o2 o3 : Obj} (h : LapS w L ax le mN dk ce cv n1 V bs oa ol ot ta tl R kids rl) : Ba w ((dk, o1) :: (L + 1 + 1 + 1, o2) :: (rl, o3) :: bs) V R kids :=
  ((h.ba.push h.offr.1 h.offr.2).push (Ne.symm (h.off _ led_root).2) fun p hp => Ne.symm (h.off _ (led_kid hp)).2).push (Ne.symm (h.off _ led_root).1) fun p hp => Ne.symm (h.off _ (led_kid hp)).1
end
theorem lap_in {P : Params} {R : Win} {kids : List Kid} {x y z : Addr × Obj} {bs : List (Addr × Obj)} : ∀ p ∈ led P R kids (x :: y :: z :: bs), p ∈ x :: y :: z :: led P R kids bs := fun p hp => by
  simp only [led, List.mem_cons, List.mem_append] at hp ⊢
  rcases hp with h | h | h | h | h | h
  · exact .inr (.inr (.inr (.inl h)))
  · exact .inr (.inr (.inr (.inr (.inl h))))
  · exact .inl h
  · exact .inr (.inl h)
  · exact .inr (.inr (.inl h))
  · exact .inr (.inr (.inr (.inr (.inr h))))
theorem lap_out {P : Params} {R : Win} {kids : List Kid} {x y z : Addr × Obj} {bs : List (Addr × Obj)} : ∀ p ∈ x :: y :: z :: led P R kids bs, p ∈ led P R kids (x :: y :: z :: bs) := fun p hp => by
  simp only [led, List.mem_cons, List.mem_append] at hp ⊢
  rcases hp with h | h | h | h | h | h
  · exact .inr (.inr (.inl h))
  · exact .inr (.inr (.inr (.inl h)))
  · exact .inr (.inr (.inr (.inr (.inl h))))
  · exact .inl h
  · exact .inr (.inl h)
  · exact .inr (.inr (.inr (.inr (.inr h))))
theorem ge_getD {le : Int} {f : List Int} (h : ∀ z ∈ f, le ≤ z) : ∀ i, i < f.length → le ≤ f.getD i 0 := fun i hi => by
  rw [List.getD_eq_getElem?_getD, List.getElem?_eq_getElem hi]
  exact h _ (List.getElem_mem hi)
theorem ge_of_getD {le : Int} {f : List Int} (h : ∀ i, i < f.length → le ≤ f.getD i 0) : ∀ z ∈ f, le ≤ z := fun z hz => by
  obtain ⟨i, hi, e⟩ := List.getElem_of_mem hz
  have := h i hi
  rw [List.getD_eq_getElem?_getD, List.getElem?_eq_getElem hi, e] at this
  exact this
theorem fv_ints : ∀ {kids : List Kid}, IntsAre (kids.map fv) (kids.map (·.1.num))
  | [] => .nil
  | _ :: _ => .cons _ _ fv_ints
theorem getD_num {a b : List Kid} {W : Win} {t : Tok} : ((a ++ (W, t) :: b).map (·.1.num)).getD a.length 0 = W.num := by
  rw [List.getD_eq_getElem?_getD, List.getElem?_map, List.getElem?_append_right (Nat.le_refl _)]
  simp


end PartLap
section PartD20
theorem words_23 : True := by
  k_with "subscriptTail Name Name ref int" => ((with_reducible show wpAny _ _ (subscriptTail _ _ (Value.ref _) (Value.int _ _)) _ _ _); k_dflt (refine' ksa_sub ?wk1 ?wk2 ?wk3 ?wk4 ?wk5 ?wk6 ?_ ?wk7; (case wk1 => k_asm); (case wk2 => k_mem); (case wk3 => with_reducible assumption); (case wk4 => omega); (case wk5 => omega); (case wk6 => omega); (case wk7 => with_unfolding_all rfl); intro _))
  k_with "updF" => first | exact PySem.W.UpdF.head (by walk_at "off") | exact PySem.W.UpdF.tail (by first | with_reducible assumption | exact ne_all (by walk_at "alllt") (by first | assumption | k_mem) | k_ne) (by walk_at "updF")
  k_with "storeName" => (k_dflt (refine' storeX_C ?wF ?wN ?wc ?wU ?wd ?_ ?whk ?whx; (case whx => exact rfl); (case whk => exact rfl); (case wF => k_asm); (case wN => k_asm); (case wc => exact rfl); (case wU => walk_at "updF"); (case wd => with_reducible assumption); k_whole); intro _ _ _ _ _; (try k_sweep))
  trivial

theorem int_at {vs : List Value} {ns : List Int} {i : Nat} {v : Value} (h : IntsAre vs ns) (hv : vs.toArray[i]? = some v) : ∃ z t, ns[i]? = some z ∧ v = .int z t := by
  rw [List.getElem?_toArray] at hv
  induction h generalizing i with
  | nil => cases hv
  | cons n t _ ih =>
    cases i with
    | zero => exact ⟨n, t, rfl, (Option.some.inj hv).symm⟩
    | succ i => exact ih (by simpa using hv)
set_option maxRecDepth 100000 in
set_option maxHeartbeats 8000000 in
theorem near_c {w : World} {p : Program} {loose : List Str} {mean : ExcName → Option Value} {mg mb : Str → Option Value} {g : Heap} {L f : Addr} {cdv : Value} {m : Str → Option Value} {s : Shared} {Q : Flow → Shared → Prop} {E : Value → Shared → Prop} {ax le : Int} {mN : Nat} {dk ce : Addr} {cv : List Value} {n1 : Nat} {V : Tre} {bs : List (Addr × Obj)} {oa ol ot orr : Obj} {ta tl : Tok} {R W : Win} {a9 b9 : List Kid} {t0 : Tok} {rl lf : Addr} {rv : List Value} {k dl : Int} {tk9 tm tat td : Tok} {n0 n nf : Nat}
    (B : Below callerA g [] g) (F : Fr g L s.heap m) (X : (Mine.hd.heap_39 w.params).In g) (T : Top p loose mean mg mb g)
    (N : News g L s.heap ((lf, listOf ((a9 ++ (W, t0) :: b9).map fv).toArray nf) :: lapL w.params L dk ce k tk9 n0 orr rl rv n R (a9 ++ (W, t0) :: b9) bs)) (Z : LapS w L ax le mN dk ce cv n1 V bs oa ol ot ta tl R (a9 ++ (W, t0) :: b9) rl) (hor : orr.data = .cell (some (.ref rl))) (hi : IntsAre rv ((a9 ++ (W, t0) :: b9).map (·.1.size ax)))
    (m1 : m (Str.ofString "many") = some (.int (mN : Int) tm)) (m2 : m (Str.ofString "deck") = some (.ref dk)) (m3 : m (Str.ofString "found") = some (.ref lf)) (m4 : m (Str.ofString "at") = some (.int (a9.length : Int) tat)) (m5 : m (Str.ofString "delta") = some (.int dl td))
    (hret : ∀ (R' : Win) (kids' : List Kid) (rl' : Addr) (rv' : List Value) (n' : Nat) (orr' : Obj) (m' : Str → Option Value) (h9 : Heap) (tk8 : Nat), Fr g L h9 m' → m' (Str.ofString "many") = some (.int (mN : Int) tm) → m' (Str.ofString "deck") = some (.ref dk) → News g L h9 (lapL w.params L dk ce k tk9 n0 orr' rl' rv' n' R' kids' bs) → LapS w L ax le mN dk ce cv n1 V bs oa ol ot ta tl R' kids' rl' → orr'.data = .cell (some (.ref rl')) → IntsAre rv' (kids'.map (·.1.size ax)) → Q .next { s with heap := h9, toks := tk8 }) :
    wpAny (model PySem.Challenge.rw_np0057_01.row.prog w) (callerA.deeper (lawE L f cdv)) (execs (nearB) (lawE L f cdv)) Q E s := by
  unfold lawE
  conv in (occs := *) lawS => all_goals whnf
  conv in nearB => whnf
  obtain ⟨kids, hk⟩ : ∃ kids, kids = a9 ++ (W, t0) :: b9 := ⟨_, rfl⟩
  obtain ⟨rs, hrs⟩ : ∃ rs, rs = kids.map (·.1.size ax) := ⟨_, rfl⟩
  obtain ⟨ws, hws⟩ : ∃ ws, ws = kids.map (·.1.num) := ⟨_, rfl⟩
  obtain ⟨LD, hLD⟩ : ∃ LD, LD = led w.params R kids bs := ⟨_, rfl⟩
  have hfi : IntsAre (kids.map fv) ws := by rw [hws]; exact fv_ints
  have enum : ws.getD ((a9.length : Int)).toNat 0 = W.num := by rw [hws, hk]; exact getD_num
  have esz : rs.getD ((a9.length : Int)).toNat 0 = W.size ax := by rw [hrs, hk]; exact getD_mid
  have hlm : kids.length = mN := by rw [hk]; exact Z.len
  have hal : kids.length = a9.length + 1 + b9.length := by rw [hk, List.length_append, List.length_cons]; omega
  have hrl2 : rs.length = mN := by rw [hrs, List.length_map]; exact hlm
  have hwl : ws.length = mN := by rw [hws, List.length_map]; exact hlm
  have m2' := Z.m2
  have m9' := Z.m9
  have hna : a9.length < mN := by omega
  rw [← hk, ← hrs] at hi
  have N1 : News g L s.heap ((lf, listOf (kids.map fv).toArray nf) :: (dk, listOf #[.ref ce, .int k tk9] n0) :: (L + 1 + 1 + 1, orr) :: (rl, listOf rv.toArray n) :: LD) := by rw [hLD, hk]; exact N
  clear N
  have hb : ∀ q ∈ bs, q ∈ LD := fun q hq => by rw [hLD]; exact led_base hq
  have ca := hb _ Z.ca
  have ca2 := Z.ca2
  have cl := hb _ Z.cl
  have cl2 := Z.cl2
  have ct := hb _ Z.ct
  have ct2 := Z.ct2
  repeat' (first | (k_unfold; (try dsimp only)) | ((fail_if_success (with_reducible show wpAny _ _ (call (Value.ref 293) _) _ _ _)); first | walk1 | (dsimp only; walk1)))
  rename News _ _ _ _ => N1
  rename Fr _ _ _ _ => F1
  (try dsimp only)
  rw [enum]
  have hvl : V.least ax = le := Z.hle
  have hmost : (List.map (fun k' => k' - le) rs).sum - (rs.getD ((a9.length : Int)).toNat 0 - le) = ((b9 ++ a9.reverse).map fun k => k.1.size ax - le).sum := by
    rw [esz, hrs, hk]
    exact sum_mid
  rw [hmost, esz] at F1
  have hos : ((idxs a9.length b9.length).map fun i => rs.getD i 0 - le).sum = ((b9 ++ a9.reverse).map fun k => k.1.size ax - le).sum := by rw [hrs, hk]; exact others_sum
  have hgeD : ∀ i, i < rs.length → le ≤ rs.getD i 0 := by rw [hrs, hk]; exact ge_getD Z.ge
  have hszg : le ≤ W.size ax := by
    have := hgeD a9.length (by omega)
    rw [show rs.getD a9.length 0 = W.size ax from esz] at this
    exact this
  have hSG := (taken_give (dl := 0) (a := a9.length) (b := b9.length) (by omega) (by omega) hgeD hos).1
  generalize hpt : (if le - W.size ax > (if ((b9 ++ a9.reverse).map fun k => k.1.size ax - le).sum < dl then ((b9 ++ a9.reverse).map fun k => k.1.size ax - le).sum else dl) then le - W.size ax else (if ((b9 ++ a9.reverse).map fun k => k.1.size ax - le).sum < dl then ((b9 ++ a9.reverse).map fun k => k.1.size ax - le).sum else dl)) = pt at F1
  have N2 : News g L _ (led w.params R (a9 ++ (W, t0) :: b9) ((dk, listOf #[.ref ce, .int k tk9] n0) :: (L + 1 + 1 + 1, orr) :: (rl, listOf rv.toArray n) :: bs)) := cb_drop N1 (fun p hp => .tail _ (.tail _ (by rw [hLD, hk]; exact lap_in p hp)))
  clear N1
  refine' enlarge_c ?B ?F ?X ?N ?T ?hk ?hd ?hu Z.baX rfl Z.rax (by rw [hvl]; exact hSG) (by rw [hvl]; exact hszg) Z.pl ?_
  (case B => k_asm)
  (case F => exact F1)
  (case X => k_asm)
  (case N => exact N2)
  (case T => k_asm)
  (case hk => first | exact rfl | assumption)
  (case hd => ktr_room)
  (case hu => ktr_units)
  k_whole
  intro h9 tk8 R' kids' t9 F9 N9 e1 e2 e3 e4
  clear N2 F1
  rw [hvl] at e3
  rw [hvl]
  have hmk := much_ok (dl := dl) hSG hszg
  have hpt' : (if (if ((b9 ++ a9.reverse).map fun k => k.1.size ax - le).sum < dl then ((b9 ++ a9.reverse).map fun k => k.1.size ax - le).sum else dl) < le - W.size ax then le - W.size ax else (if ((b9 ++ a9.reverse).map fun k => k.1.size ax - le).sum < dl then ((b9 ++ a9.reverse).map fun k => k.1.size ax - le).sum else dl)) = pt := hpt
  rw [hpt'] at e3 hmk ⊢
  obtain ⟨LD2, hLD2⟩ : ∃ LD2, LD2 = led w.params R' kids' bs := ⟨_, rfl⟩
  have N3 : News g L _ ((dk, listOf #[.ref ce, .int k tk9] n0) :: (L + 1 + 1 + 1, orr) :: (rl, listOf rv.toArray n) :: LD2) := cb_drop N9 (fun p hp => lap_out p (by rw [← hLD2]; exact hp))
  clear N9
  have hb2 : ∀ q ∈ bs, q ∈ LD2 := fun q hq => by rw [hLD2]; exact led_base hq
  have ca := hb2 _ Z.ca
  have cl := hb2 _ Z.cl
  have ct := hb2 _ Z.ct
  repeat' (first | (k_unfold; (try dsimp only)) | ((fail_if_success (with_reducible show wpAny _ _ (call (Value.ref 307) _) _ _ _)); first | walk1 | (dsimp only; walk1)))
  rename News _ _ _ _ => N4
  rename Fr _ _ _ _ => F4
  (try dsimp only)
  have htk := (taken_give (dl := pt) (a := a9.length) (b := b9.length) (by omega) (by omega) hgeD hos).2.2 (by rw [show rs.getD a9.length 0 = W.size ax from esz]; exact hmk)
  rw [show rs.getD a9.length 0 = W.size ax from esz] at htk
  have hges : ∀ z ∈ kids'.map (·.1.size ax), le ≤ z := by
    rw [e3, ← hk, ← hrs]
    exact ge_of_getD (after_ge hgeD (by omega))
  have Z2 := Z.move e1 e2 e4 hges
  have eo : (kids'.map (·.1.size ax)) = (giveL le pt (idxs a9.length b9.length) rs).set a9.length (W.size ax + pt) := by rw [e3, ← hk, ← hrs]
  have hLk : ∀ q ∈ LD2, q.1 ≠ dk ∧ q.1 ≠ L + 1 + 1 + 1 := by rw [hLD2]; exact Z2.off
  have hL1 : ∀ q ∈ LD2, q.1 ≠ dk := fun q hq => (hLk q hq).1
  have hL3 : ∀ q ∈ LD2, q.1 ≠ L + 1 + 1 + 1 := fun q hq => (hLk q hq).2
  have hd1 := Z.d1
  have hd3 := Z.d3
  refine' taken_c (na := a9.length) (nb := b9.length) (rs := rs) ?B ?F ?X ?N ?T ?hk ?hd ?hu ?hd1 hi rfl (by omega) (by omega) (by omega) (fun z => ?hN) ?_
  (case B => k_asm)
  (case F => exact F4)
  (case X => k_asm)
  (case N => exact N4)
  (case T => k_asm)
  (case hk => first | exact rfl | assumption)
  (case hd => ktr_room)
  (case hu => ktr_units)
  (case hd1 => k_mem)
  (case hN => exact absurd (z.symm.trans htk) (by simp))
  intro res hres l fv2 n2 h10 tk10 F10 N10 hI10 lt10
  clear N4 F4
  have hl3 : l ≠ L + 1 + 1 + 1 := Nat.ne_of_gt (lt10 (L + 1 + 1 + 1, orr) (.tail _ (.head _)))
  have hldk : l ≠ dk := Nat.ne_of_gt (lt10 (dk, listOf #[.ref ce, .int k tk9] n0) (.head _))
  have hlLD : ∀ q ∈ LD2, q.1 ≠ l := fun q hq => Nat.ne_of_lt (lt10 q (.tail _ (.tail _ (.tail _ hq))))
  obtain rfl : (giveL le pt (idxs a9.length b9.length) rs).set a9.length (W.size ax + pt) = res := Option.some.inj (htk.symm.trans hres)
  repeat' (first | (k_unfold; (try dsimp only)) | ((fail_if_success (with_reducible show wpAny _ _ (exec (Stmt.While _ _ _ _) _) _ _ _)); (fail_if_success (with_reducible show WhlRest _ _ _ _ _ _ _ _ _ _ _)); (fail_if_success (with_reducible show WStep _ _ _ _ _ _)); first | walk1 | (dsimp only; walk1)))
  rename News _ _ _ _ => N5
  rename Fr _ _ _ _ => F5
  rename (_ = Data.cell (some (Value.ref l))) => d5
  refine hret R' kids' l fv2 n2 _ _ _ _ F5 m1 m2 (cb_drop N5 ?_) (Z2.room (by rw [← hLD2]; exact hlLD) hldk hl3) d5 (by rw [eo]; exact hI10)
  subst hLD2
  refine List.forall_mem_cons.mpr ⟨.tail _ (.head _), List.forall_mem_cons.mpr ⟨.tail _ (.tail _ (.head _)), List.forall_mem_cons.mpr ⟨.head _, fun p hp => .tail _ (.tail _ (.tail _ (.tail _ hp)))⟩⟩⟩



end PartD20
section PartD21
set_option maxRecDepth 100000 in
set_option maxHeartbeats 8000000 in
theorem else_c {w : World} {p : Program} {loose : List Str} {mean : ExcName → Option Value} {mg mb : Str → Option Value} {g : Heap} {L f : Addr} {cdv : Value} {m : Str → Option Value} {s : Shared} {Q : Flow → Shared → Prop} {E : Value → Shared → Prop} {ax le : Int} {mN : Nat} {dk ce : Addr} {cv : List Value} {n1 : Nat} {V : Tre} {bs : List (Addr × Obj)} {oa ol ot orr : Obj} {ta tl : Tok} {R W : Win} {a9 b9 : List Kid} {t0 : Tok} {rl lf : Addr} {rv : List Value} {k dl : Int} {tk9 tm tat td : Tok} {n0 n nf : Nat}
    (B : Below callerA g [] g) (F : Fr g L s.heap m) (X : (Mine.hd.heap_39 w.params).In g) (T : Top p loose mean mg mb g)
    (N : News g L s.heap ((lf, listOf ((a9 ++ (W, t0) :: b9).map fv).toArray nf) :: lapL w.params L dk ce k tk9 n0 orr rl rv n R (a9 ++ (W, t0) :: b9) bs)) (Z : LapS w L ax le mN dk ce cv n1 V bs oa ol ot ta tl R (a9 ++ (W, t0) :: b9) rl) (hor : orr.data = .cell (some (.ref rl))) (hi : IntsAre rv ((a9 ++ (W, t0) :: b9).map (·.1.size ax)))
    (m1 : m (Str.ofString "many") = some (.int (mN : Int) tm)) (m2 : m (Str.ofString "deck") = some (.ref dk)) (m3 : m (Str.ofString "found") = some (.ref lf)) (m4 : m (Str.ofString "at") = some (.int (a9.length : Int) tat)) (m5 : m (Str.ofString "delta") = some (.int dl td))
    (hret : ∀ (R' : Win) (kids' : List Kid) (rl' : Addr) (rv' : List Value) (n' : Nat) (orr' : Obj) (m' : Str → Option Value) (h9 : Heap) (tk8 : Nat), Fr g L h9 m' → m' (Str.ofString "many") = some (.int (mN : Int) tm) → m' (Str.ofString "deck") = some (.ref dk) → News g L h9 (lapL w.params L dk ce k tk9 n0 orr' rl' rv' n' R' kids' bs) → LapS w L ax le mN dk ce cv n1 V bs oa ol ot ta tl R' kids' rl' → orr'.data = .cell (some (.ref rl')) → IntsAre rv' (kids'.map (·.1.size ax)) → Q .next { s with heap := h9, toks := tk8 }) :
    wpAny (model PySem.Challenge.rw_np0057_01.row.prog w) (callerA.deeper (lawE L f cdv)) (execs (elseB) (lawE L f cdv)) Q E s := by
  unfold lawE
  conv in (occs := *) lawS => all_goals whnf
  conv in elseB => whnf
  obtain ⟨kids, hk⟩ : ∃ kids, kids = a9 ++ (W, t0) :: b9 := ⟨_, rfl⟩
  obtain ⟨rs, hrs⟩ : ∃ rs, rs = kids.map (·.1.size ax) := ⟨_, rfl⟩
  obtain ⟨ws, hws⟩ : ∃ ws, ws = kids.map (·.1.num) := ⟨_, rfl⟩
  obtain ⟨LD, hLD⟩ : ∃ LD, LD = led w.params R kids bs := ⟨_, rfl⟩
  have hfi : IntsAre (kids.map fv) ws := by rw [hws]; exact fv_ints
  have enum : ws.getD ((a9.length : Int)).toNat 0 = W.num := by rw [hws, hk]; exact getD_num
  have esz : rs.getD ((a9.length : Int)).toNat 0 = W.size ax := by rw [hrs, hk]; exact getD_mid
  have hlm : kids.length = mN := by rw [hk]; exact Z.len
  have hal : kids.length = a9.length + 1 + b9.length := by rw [hk, List.length_append, List.length_cons]; omega
  have hrl2 : rs.length = mN := by rw [hrs, List.length_map]; exact hlm
  have hwl : ws.length = mN := by rw [hws, List.length_map]; exact hlm
  have m2' := Z.m2
  have m9' := Z.m9
  have hna : a9.length < mN := by omega
  rw [← hk, ← hrs] at hi
  have N1 : News g L s.heap ((lf, listOf (kids.map fv).toArray nf) :: (dk, listOf #[.ref ce, .int k tk9] n0) :: (L + 1 + 1 + 1, orr) :: (rl, listOf rv.toArray n) :: LD) := by rw [hLD, hk]; exact N
  clear N
  have hb : ∀ q ∈ bs, q ∈ LD := fun q hq => by rw [hLD]; exact led_base hq
  have ca := hb _ Z.ca
  have ca2 := Z.ca2
  have cl := hb _ Z.cl
  have cl2 := Z.cl2
  have ct := hb _ Z.ct
  have ct2 := Z.ct2
  have hvl : V.least ax = le := Z.hle
  have hos : ((idxs a9.length b9.length).map fun i => rs.getD i 0 - le).sum = ((b9 ++ a9.reverse).map fun k => k.1.size ax - le).sum := by rw [hrs, hk]; exact others_sum
  have hgeD : ∀ i, i < rs.length → le ≤ rs.getD i 0 := by rw [hrs, hk]; exact ge_getD Z.ge
  have esz' : rs.getD a9.length 0 = W.size ax := esz
  have htk := (taken_give (dl := dl) (a := a9.length) (b := b9.length) (by omega) (by omega) hgeD hos).2
  rw [esz'] at htk
  repeat' (first | (k_unfold; (try dsimp only)) | ((fail_if_success (with_reducible show wpAny _ _ (call (Value.ref 307) _) _ _ _)); first | walk1 | (dsimp only; walk1)))
  by_cases hc : ((b9 ++ a9.reverse).map fun k => k.1.size ax - le).sum < dl ∨ W.size ax + dl < le
  · have hno := htk.1 hc
    refine' taken_c (na := a9.length) (nb := b9.length) (rs := rs) ?B ?F ?X ?N ?T ?hk ?hd ?hu ?hd1 hi rfl (by omega) (by omega) (by omega) (fun _ => ?hN) (fun res hres => absurd (hno.symm.trans hres) (by simp))
    (case B => k_asm)
    (case F => k_asm)
    (case X => k_asm)
    (case N => k_asm)
    (case T => k_asm)
    (case hk => first | exact rfl | assumption)
    (case hd => ktr_room)
    (case hu => ktr_units)
    (case hd1 => k_mem)
    intro h10 tk10 F10 N10
    repeat' (first | (k_unfold; (try dsimp only)) | ((fail_if_success (with_reducible show wpAny _ _ (exec (Stmt.Try _ _ _ _ _) _) _ _ _)); first | walk1 | (dsimp only; walk1)))
    refine wpAny_Try_except ?_
    repeat' (first | (k_unfold; (try dsimp only)) | ((fail_if_success (with_reducible show wpAny _ _ (call (Value.ref 258) _) _ _ _)); first | walk1 | (dsimp only; walk1)))
    rename News _ _ _ _ => N1
    rename Fr _ _ _ _ => F1
    (try dsimp only)
    rw [enum]
    have N2 : News g L _ (led w.params R (a9 ++ (W, t0) :: b9) ((dk, listOf #[.ref ce, .int k tk9] n0) :: (L + 1 + 1 + 1, orr) :: (rl, listOf rv.toArray n) :: bs)) := cb_drop N1 (fun p hp => .tail _ (by rw [hLD, hk]; exact lap_in p hp))
    clear N1
    refine' resize_c ?B ?F ?X ?N ?T ?hk ?hd ?hu Z.baX rfl Z.rax (fun z h9 g9 tk9 e t dx od mA vs ts Fg U RD hO hs => ?hra) (fun z => absurd hc (by rw [hvl] at z; exact z))
    (case B => k_asm)
    (case F => exact F1)
    (case X => k_asm)
    (case N => exact N2)
    (case T => k_asm)
    (case hk => first | exact rfl | assumption)
    (case hd => ktr_room)
    (case hu => ktr_units)
    case hra =>
      (try dsimp only)
      refine' caught_lsX ?K Fg U RD X ?T ?ex ?hls ?k ?hk ?hlo ?hx ?hd
      (case K => exact B)
      (case T => k_asm)
      (case ex => k_is)
      (case hls => exact ls_in _)
      (case hk => exact rfl)
      (case hlo => exact rfl)
      (case hx => exact rfl)
      (case hd => decide)
      case k =>
        intro h11 tk11 oe ws2 F11 N11 hoc hod hoi
        clear N2 F1
        repeat' (first | (k_unfold; (try dsimp only)) | ((fail_if_success (with_reducible show wpAny _ _ (getAttr _ _ _) _ _ _)); first | walk1 | (dsimp only; walk1)))
        rename News _ _ _ _ => N12
        rename Fr _ _ _ _ => F12
        (try dsimp only)
        refine ex15 (ls_of (X.keeps F12.keep) (ls_in _)) ?_
        intro nm q9 NN bs9 sn sub ab col dd k0 k1 k2 k3 k5 mN9 C
        refine ls_get C C.2.2.2.2.1 lk_sym (N12 _ (.head _)).1 hoc (fun c z => by rw [hod] at z; cases z) hoi (hO.ns (N12 _ (.tail _ (.head _))).1) hs rfl ?_
        clear C
        repeat' (first | (k_unfold; (try dsimp only)) | ((fail_if_success (with_reducible show wpAny _ _ ((do bindName _ _ _; unbindBehindTheSuite _ _ _)) _ _ _)); first | walk1 | (dsimp only; walk1)))
        rename News _ _ _ _ => N13
        rename Fr _ _ _ _ => F13
        (try dsimp only)
        refine' name_goesX ?F ?N ?h ?hk ?hl
        (case F => exact F13)
        (case N => exact N13)
        (case hk => exact rfl)
        (case hl => exact rfl)
        case h =>
          intro h14 v14 F14 N14
          clear F13 N13
          repeat' (first | (k_unfold; (try dsimp only)) | ((fail_if_success (with_reducible show wpAny _ _ (exec (Stmt.While _ _ _ _) _) _ _ _)); (fail_if_success (with_reducible show WhlRest _ _ _ _ _ _ _ _ _ _ _)); (fail_if_success (with_reducible show WStep _ _ _ _ _ _)); first | walk1 | (dsimp only; walk1)))
          rename Fr _ _ _ _ => F15
          rename News _ _ _ _ => N15
          exact hret R (a9 ++ (W, t0) :: b9) rl rv n orr _ _ _ F15 m1 m2 (cb_drop N15 (fun p hp => .tail _ (.tail _ (lap_out p hp)))) Z hor (by rw [← hk, ← hrs]; exact hi)
  · have hyes := htk.2 hc
    refine' taken_c (na := a9.length) (nb := b9.length) (rs := rs) ?B ?F ?X ?N ?T ?hk ?hd ?hu ?hd1 hi rfl (by omega) (by omega) (by omega) (fun z => absurd (hyes.symm.trans z) (by simp)) ?_
    (case B => k_asm)
    (case F => k_asm)
    (case X => k_asm)
    (case N => k_asm)
    (case T => k_asm)
    (case hk => first | exact rfl | assumption)
    (case hd => ktr_room)
    (case hu => ktr_units)
    (case hd1 => k_mem)
    intro res hres l fv2 n2 h10 tk10 F10 N10 hI10 lt10
    have hl3 : l ≠ L + 1 + 1 + 1 := Nat.ne_of_gt (lt10 (L + 1 + 1 + 1, orr) (.tail _ (.tail _ (.head _))))
    have hldk : l ≠ dk := Nat.ne_of_gt (lt10 (dk, listOf #[.ref ce, .int k tk9] n0) (.tail _ (.head _)))
    have hlLD : ∀ q ∈ LD, q.1 ≠ l := fun q hq => Nat.ne_of_lt (lt10 q (.tail _ (.tail _ (.tail _ (.tail _ hq)))))
    obtain rfl : (giveL le dl (idxs a9.length b9.length) rs).set a9.length (W.size ax + dl) = res := Option.some.inj (hyes.symm.trans hres)
    repeat' (first | (k_unfold; (try dsimp only)) | ((fail_if_success (with_reducible show wpAny _ _ (exec (Stmt.Try _ _ _ _ _) _) _ _ _)); first | walk1 | (dsimp only; walk1)))
    refine wpAny_Try_except ?_
    repeat' (first | (k_unfold; (try dsimp only)) | ((fail_if_success (with_reducible show wpAny _ _ (call (Value.ref 258) _) _ _ _)); first | walk1 | (dsimp only; walk1)))
    rename News _ _ _ _ => N1
    rename Fr _ _ _ _ => F1
    (try dsimp only)
    rw [enum]
    have Zl := (Z.room (rl' := l) (by rw [← hk, ← hLD]; exact hlLD) hldk hl3)
    have N2 : News g L _ (led w.params R (a9 ++ (W, t0) :: b9) ((l, listOf fv2.toArray n2) :: (dk, listOf #[.ref ce, .int k tk9] n0) :: (L + 1 + 1 + 1, orr) :: bs)) := cb_drop N1 (fun p hp => by
      have := lap_in p hp
      rw [← hk, ← hLD] at this
      simp only [List.mem_cons] at this ⊢
      rcases this with h | h | h | h
      · exact .inl h
      · exact .inr (.inr (.inl h))
      · exact .inr (.inr (.inr (.inl h)))
      · exact .inr (.inr (.inr (.inr (.inr h)))))
    clear N1
    have Bl : Ba w ((l, listOf fv2.toArray n2) :: (dk, listOf #[.ref ce, .int k tk9] n0) :: (L + 1 + 1 + 1, orr) :: bs) V R (a9 ++ (W, t0) :: b9) :=
      ((Z.ba.push (Ne.symm (Zl.off _ led_root).2) fun p hp => Ne.symm (Zl.off _ (led_kid hp)).2).push (Ne.symm (Zl.off _ led_root).1) fun p hp => Ne.symm (Zl.off _ (led_kid hp)).1).push Zl.offr.1 Zl.offr.2
    refine' resize_c ?B ?F ?X ?N ?T ?hk ?hd ?hu Bl rfl Z.rax (fun z h9 g9 tk9 e t dx od mA vs ts Fg U RD hO hs => absurd (by rw [hvl] at z; exact z) hc) (fun z => ?hra)
    (case B => k_asm)
    (case F => exact F1)
    (case X => k_asm)
    (case N => exact N2)
    (case T => k_asm)
    (case hk => first | exact rfl | assumption)
    (case hd => ktr_room)
    (case hu => ktr_units)
    case hra =>
      intro h11 tk11 R' kids' F11 N11 e1 e2 e3 e4
      clear N2 F1
      rw [hvl] at e3
      have eo : (kids'.map (·.1.size ax)) = (giveL le dl (idxs a9.length b9.length) rs).set a9.length (W.size ax + dl) := by rw [e3, ← hk, ← hrs]
      have hges : ∀ z ∈ kids'.map (·.1.size ax), le ≤ z := by
        rw [eo]
        exact ge_of_getD (after_ge hgeD (by omega))
      have Z2 := Zl.move e1 e2 e4 hges
      obtain ⟨LD2, hLD2⟩ : ∃ LD2, LD2 = led w.params R' kids' bs := ⟨_, rfl⟩
      have N3 : News g L _ ((l, listOf fv2.toArray n2) :: (dk, listOf #[.ref ce, .int k tk9] n0) :: (L + 1 + 1 + 1, orr) :: LD2) := cb_drop N11 (fun p hp => lap_out p (by rw [← hLD2]; exact hp))
      clear N11
      have hb2 : ∀ q ∈ bs, q ∈ LD2 := fun q hq => by rw [hLD2]; exact led_base hq
      have ca := hb2 _ Z.ca
      have cl := hb2 _ Z.cl
      have ct := hb2 _ Z.ct
      have hL3 : ∀ q ∈ LD2, q.1 ≠ L + 1 + 1 + 1 := fun q hq => by rw [hLD2] at hq; exact (Z2.off q hq).2
      have hd1 := Z.d1
      (try dsimp only)
      repeat' (first | (k_unfold; (try dsimp only)) | ((fail_if_success (with_reducible show wpAny _ _ (exec (Stmt.While _ _ _ _) _) _ _ _)); (fail_if_success (with_reducible show WhlRest _ _ _ _ _ _ _ _ _ _ _)); (fail_if_success (with_reducible show WStep _ _ _ _ _ _)); first | walk1 | (dsimp only; walk1)))
      rename Fr _ _ _ _ => F15
      rename News _ _ _ _ => N15
      rename (_ = Data.cell (some (Value.ref l))) => d5
      refine hret R' kids' l fv2 n2 _ _ _ _ F15 m1 m2 (cb_drop N15 ?_) Z2 d5 (by rw [eo]; exact hI10)
      subst hLD2
      refine List.forall_mem_cons.mpr ⟨.tail _ (.head _), List.forall_mem_cons.mpr ⟨.tail _ (.tail _ (.head _)), List.forall_mem_cons.mpr ⟨.head _, fun p hp => .tail _ (.tail _ (.tail _ hp))⟩⟩⟩



end PartD21
section PartD22
theorem words_24 : True := by
  k_with "off" => first | with_reducible assumption | exact List.forall_mem_cons.mpr ⟨by first | with_reducible assumption | k_ne, by walk_at "off"⟩
  k_with "upd" => first | exact Upd.head (by walk_at "off") | exact Upd.tail (by first | with_reducible assumption | k_ne) (by walk_at "upd")
  trivial

set_option maxRecDepth 100000 in
set_option maxHeartbeats 8000000 in
theorem lap_c {w : World} {p : Program} {loose : List Str} {mean : ExcName → Option Value} {mg mb : Str → Option Value} {g : Heap} {L f : Addr} {cdv : Value} {m : Str → Option Value} {s : Shared} {Q : Flow → Shared → Prop} {E : Value → Shared → Prop} {ax le : Int} {mN : Nat} {dk ce : Addr} {cv : List Value} {ns : List Int} {n1 : Nat} {V : Tre} {bs : List (Addr × Obj)} {oa ol ot orr : Obj} {ta tl : Tok} {R : Win} {kids : List Kid} {rl : Addr} {rv : List Value} {k : Int} {tkk tm : Tok} {n0 n : Nat}
    (B : Below callerA g [] g) (F : Fr g L s.heap m) (X : (Mine.hd.heap_39 w.params).In g) (T : Top p loose mean mg mb g)
    (N : News g L s.heap (lapL w.params L dk ce k tkk n0 orr rl rv n R kids bs)) (Z : LapS w L ax le mN dk ce cv n1 V bs oa ol ot ta tl R kids rl) (hor : orr.data = .cell (some (.ref rl))) (hi : IntsAre rv (kids.map (·.1.size ax)))
    (m1 : m (Str.ofString "many") = some (.int (mN : Int) tm)) (m2 : m (Str.ofString "deck") = some (.ref dk)) (hcv : IntsAre cv ns) (hns : ns.length ≤ 63) (hk0 : 0 ≤ k) (hk9 : k ≤ 900)
    (hret : ∀ (R' : Win) (kids' : List Kid) (rl' : Addr) (rv' : List Value) (n' : Nat) (orr' : Obj) (k' : Int) (tk' : Tok) (m' : Str → Option Value) (h9 : Heap) (tk8 : Nat), k ≤ k' → k' ≤ k + 4 → Fr g L h9 m' → m' (Str.ofString "many") = some (.int (mN : Int) tm) → m' (Str.ofString "deck") = some (.ref dk) → News g L h9 (lapL w.params L dk ce k' tk' n0 orr' rl' rv' n' R' kids' bs) → LapS w L ax le mN dk ce cv n1 V bs oa ol ot ta tl R' kids' rl' → orr'.data = .cell (some (.ref rl')) → IntsAre rv' (kids'.map (·.1.size ax)) → Q .next { s with heap := h9, toks := tk8 }) :
    wpAny (model PySem.Challenge.rw_np0057_01.row.prog w) (callerA.deeper (lawE L f cdv)) (execs (forB 9) (lawE L f cdv)) Q E s := by
  unfold lawE
  conv in (occs := *) lawS => all_goals whnf
  conv in forB 9 => whnf
  obtain ⟨LD, hLD⟩ : ∃ LD, LD = led w.params R kids bs := ⟨_, rfl⟩
  have N1 : News g L s.heap ((dk, listOf #[.ref ce, .int k tkk] n0) :: (L + 1 + 1 + 1, orr) :: (rl, listOf rv.toArray n) :: LD) := by rw [hLD]; exact N
  clear N
  have S : St w LD V R kids := by rw [hLD]; exact Z.ba.st
  have hb : ∀ q ∈ bs, q ∈ LD := fun q hq => by rw [hLD]; exact led_base hq
  have ca := hb _ Z.ca
  have ca2 := Z.ca2
  have ct := hb _ Z.ct
  have ct2 := Z.ct2
  have hce := hb _ Z.ce
  have hlm := Z.len
  have m2' := Z.m2
  have m9' := Z.m9
  have hoff : ∀ q ∈ LD, q.1 ≠ dk ∧ q.1 ≠ L + 1 + 1 + 1 := by rw [hLD]; exact Z.off
  have hoff1 : ∀ q ∈ LD, q.1 ≠ dk := fun q hq => (hoff q hq).1
  have hd1 := Z.d1
  have hd1' := Ne.symm Z.d1
  have hd2 := Z.d2
  have hcd : ce ≠ dk := hoff1 _ hce
  repeat' (first | (k_unfold; (try dsimp only)) | ((fail_if_success (with_reducible show wpAny _ _ (call (Value.ref 300) _) _ _ _)); first | walk1 | (dsimp only; walk1)))
  refine' draw_c ?B ?F ?X ?N ?T ?hk ?hd ?hu ?hd1 ?hd2 ?hi ?hlen ?hk0 ?hk9 ?hmn ?hmx ?hne ?U ?_
  (case B => k_asm)
  (case F => k_asm)
  (case X => k_asm)
  (case N => k_asm)
  (case T => k_asm)
  (case hk => first | exact rfl | assumption)
  (case hd => ktr_room)
  (case hu => ktr_units)
  (case hd1 => k_mem)
  (case hd2 => k_mem)
  (case hi => with_reducible assumption)
  (case hlen => assumption)
  (case hk0 => omega)
  (case hk9 => omega)
  (case hmn => omega)
  (case hmx => omega)
  (case hne => with_reducible assumption)
  (case U => exact fun _ => by walk_at "upd")
  k_whole
  intro ra tra ura hra kra ra0 ra1 Fra Nra
  (try k_sweep)
  obtain ⟨na, rfl⟩ : ∃ na : Nat, ra = (na : Int) := ⟨ra.toNat, by omega⟩
  obtain ⟨a9, ⟨W, t0⟩, b9, hsp, hal, _⟩ := split_at (l := kids) (i := na) (by omega)
  subst hsp hal
  repeat' (first | (k_unfold; (try dsimp only)) | ((fail_if_success (with_reducible show wpAny _ _ (call (Value.ref 300) _) _ _ _)); first | walk1 | (dsimp only; walk1)))
  refine' draw_c ?B ?F ?X ?N ?T ?hk ?hd ?hu ?hd1 ?hd2 ?hi ?hlen ?hk0 ?hk9 ?hmn ?hmx ?hne ?U ?_
  (case B => k_asm)
  (case F => k_asm)
  (case X => k_asm)
  (case N => k_asm)
  (case T => k_asm)
  (case hk => first | exact rfl | assumption)
  (case hd => ktr_room)
  (case hu => ktr_units)
  (case hd1 => k_mem)
  (case hd2 => k_mem)
  (case hi => with_reducible assumption)
  (case hlen => assumption)
  (case hk0 => omega)
  (case hk9 => omega)
  (case hmn => omega)
  (case hmx => omega)
  (case hne => with_reducible assumption)
  (case U => exact fun _ => by walk_at "upd")
  k_whole
  intro rb trb urb hrb krb rb0 rb1 Frb Nrb
  (try k_sweep)
  repeat' (first | (k_unfold; (try dsimp only)) | ((fail_if_success (with_reducible show wpAny _ _ (call (Value.ref 300) _) _ _ _)); first | walk1 | (dsimp only; walk1)))
  refine' draw_c ?B ?F ?X ?N ?T ?hk ?hd ?hu ?hd1 ?hd2 ?hi ?hlen ?hk0 ?hk9 ?hmn ?hmx ?hne ?U ?_
  (case B => k_asm)
  (case F => k_asm)
  (case X => k_asm)
  (case N => k_asm)
  (case T => k_asm)
  (case hk => first | exact rfl | assumption)
  (case hd => ktr_room)
  (case hu => ktr_units)
  (case hd1 => k_mem)
  (case hd2 => k_mem)
  (case hi => with_reducible assumption)
  (case hlen => assumption)
  (case hk0 => omega)
  (case hk9 => omega)
  (case hmn => omega)
  (case hmx => omega)
  (case hne => with_reducible assumption)
  (case U => exact fun _ => by walk_at "upd")
  k_whole
  intro rc trc urc hrc krc rc0 rc1 Frc Nrc
  (try k_sweep)
  repeat' (first | (k_unfold; (try dsimp only)) | ((fail_if_success (with_reducible show wpAny _ _ (exec (Stmt.If _ _ _ _) _) _ _ _)); first | walk1 | (dsimp only; walk1)))
  rename News _ _ _ _ => N19
  rename Fr _ _ _ _ => F19
  rw [hLD] at N19
  by_cases hc : rc = 0
  · repeat' (first | (k_unfold; (try dsimp only)) | ((fail_if_success (with_reducible show wpAny _ _ (execs (_ :: _) _) _ _ _)); first | walk1 | (dsimp only; walk1)))
    refine' near_c ?B ?F ?X ?T (cb_drop N19 (fun p hp => .tail _ (.tail _ hp))) Z hor hi ?e1 ?e2 ?e3 ?e4 ?e5 ?_
    (case B => exact B)
    (case F => exact F19)
    (case X => exact X)
    (case T => exact T)
    (case e1 => exact m1)
    (case e2 => exact m2)
    (case e3 => exact rfl)
    (case e4 => exact rfl)
    (case e5 => exact rfl)
    k_whole
    (try dsimp only)
    intro R' kids' rl' rv' n' orr' m' h9 tk8 F20 p1 p2 N20 Z20 hor20 hi20
    (try dsimp only)
    clear N19 F19
    refine' check_c (dk := dk) (mN := mN) ?B ?F ?X ?T ?N Z20.baX p1 p2 (.tail _ (.tail _ (.tail _ Z20.ca))) Z20.ca2 (.tail _ (.tail _ (.tail _ Z20.cl))) Z20.cl2 (.tail _ (.head _)) hor20 (.tail _ (.tail _ (.tail _ Z20.ct))) Z20.ct2 (.tail _ (.tail _ (.head _))) hi20 Z20.pl Z20.len ?_
    (case B => exact B)
    (case F => exact F20)
    (case X => exact X)
    (case T => exact T)
    (case N => exact cb_drop N20 (fun p hp => lap_in p hp))
    intro h21 tk21 m21 F21 q1 q2 N21
    exact hret R' kids' rl' rv' n' orr' _ _ _ _ _ (by omega) (by omega) F21 q1 q2 (cb_drop N21 (fun p hp => lap_out p hp)) Z20 hor20 hi20
  · repeat' (first | (k_unfold; (try dsimp only)) | ((fail_if_success (with_reducible show wpAny _ _ (execs (_ :: _) _) _ _ _)); first | walk1 | (dsimp only; walk1)))
    refine' else_c ?B ?F ?X ?T (cb_drop N19 (fun p hp => .tail _ (.tail _ hp))) Z hor hi ?e1 ?e2 ?e3 ?e4 ?e5 ?_
    (case B => exact B)
    (case F => exact F19)
    (case X => exact X)
    (case T => exact T)
    (case e1 => exact m1)
    (case e2 => exact m2)
    (case e3 => exact rfl)
    (case e4 => exact rfl)
    (case e5 => exact rfl)
    k_whole
    (try dsimp only)
    intro R' kids' rl' rv' n' orr' m' h9 tk8 F20 p1 p2 N20 Z20 hor20 hi20
    (try dsimp only)
    clear N19 F19
    refine' check_c (dk := dk) (mN := mN) ?B ?F ?X ?T ?N Z20.baX p1 p2 (.tail _ (.tail _ (.tail _ Z20.ca))) Z20.ca2 (.tail _ (.tail _ (.tail _ Z20.cl))) Z20.cl2 (.tail _ (.head _)) hor20 (.tail _ (.tail _ (.tail _ Z20.ct))) Z20.ct2 (.tail _ (.tail _ (.head _))) hi20 Z20.pl Z20.len ?_
    (case B => exact B)
    (case F => exact F20)
    (case X => exact X)
    (case T => exact T)
    (case N => exact cb_drop N20 (fun p hp => lap_in p hp))
    intro h21 tk21 m21 F21 q1 q2 N21
    exact hret R' kids' rl' rv' n' orr' _ _ _ _ _ (by omega) (by omega) F21 q1 q2 (cb_drop N21 (fun p hp => lap_out p hp)) Z20 hor20 hi20



end PartD22
section PartZip

abbrev zws (I : Addr) : List (Addr × String) := [(I + 4, "zip"), (I + 2, "tuple"), (I + 3, "tuple"), (I, "list_iterator"), (I + 1, "list_iterator")]
theorem zip_ind {prog : Program} {w : World} {A : Around} {E : Value → Shared → Prop} {h₀ : Heap} {env : Env} {target : PySem.Expr} {body : List Stmt} {Q : Flow → Shared → Prop} {s : Shared} {I : Addr} {keep : List (Addr × Obj)} {xs : List Itm} {m : Str → Option Value} {news : List (Addr × Obj)}
    (Inv : List Itm → (Str → Option Value) → List (Addr × Obj) → Prop) (h0 : Inv xs m news)
    (turn : ∀ f y r m news, Inv (.pair f y :: r) m news → ∀ (T : Addr) (t : Tok) (o1 o2 o3 o4 o5 : Obj) (h : Heap) (tk : Nat), IsTup h T #[f t, y] → Fr h₀ env.locals h m → News h₀ env.locals h ((I + 4, o1) :: (I + 2, o2) :: (I + 3, o3) :: (I, o4) :: (I + 1, o5) :: news) →
      wpAny (model prog w) A (assign target env (.ref T)) (fun _ s₂ => wpAny (model prog w) A (execs body env) (UnrPostW h₀ env.locals { s with heap := h, toks := tk } [(I + 4, o1), (I + 2, o2), (I + 3, o3), (I, o4), (I + 1, o5)] (fun m' n' => SubL keep n' ∧ Inv r m' n') Q) E s₂) E { s with heap := h, toks := tk })
    (pr : ∀ a r m news, Inv (a :: r) m news → ∃ f y, a = .pair f y)
    (done : ∀ m news h tk, Inv [] m news → Fr h₀ env.locals h m → News h₀ env.locals h news → Q .next { s with heap := h, toks := tk }) :
    ItemsRest prog w A E h₀ env target body Q s (zws I) keep xs m news := by
  induction xs generalizing m news with
  | nil => exact ItemsRest.zero fun h tk F N => done _ _ h tk h0 F N
  | cons a r ih =>
    obtain ⟨f, y, rfl⟩ := pr a r m news h0
    refine ItemsRest.pair fun T t h tk hT F => ?_
    intro o1 _ o2 _ o3 _ o4 _ o5 _ N
    refine wpAny_mono (turn f y r m news h0 T t o1 o2 o3 o4 o5 h tk hT F N) (fun _ s₂ q => wpAny_mono q (fun fl s₃ z => ?_) fun _ _ z => z) fun _ _ z => z
    cases fl with
    | ret v => exact z
    | brk => exact z
    | next =>
      obtain ⟨h', tk', m', news', e, F', N', off, sb, hi⟩ := z
      exact ⟨h', tk', m', news', e, F', N', off, sb, ih hi⟩
    | cont =>
      obtain ⟨h', tk', m', news', e, F', N', off, sb, hi⟩ := z
      exact ⟨h', tk', m', news', e, F', N', off, sb, ih hi⟩
/-- two entries of a ledger whose objects differ lie apart -/
theorem key_ne {h₀ h : Heap} {L a c : Addr} {o o' : Obj} {news : List (Addr × Obj)} (N : News h₀ L h news) (h1 : (a, o) ∈ news) (h2 : (c, o') ∈ news) (hn : o ≠ o') : a ≠ c := fun e => by
  have q1 := (N _ h1).1
  have q2 := (N _ h2).1
  dsimp only at q1 q2
  rw [e] at q1
  exact hn (Option.some.inj (q1.symm.trans q2))
theorem dict_ne_list {es : List DictEntry} {n k : Nat} {its : Array Value} : dictOf es n ≠ listOf its k := fun e => by
  have := congrArg Obj.cls e
  simp at this
theorem inst_ne_list {c d : Addr} {k : Nat} {its : Array Value} : instObj c d ≠ listOf its k := fun e => by
  have := congrArg Obj.cls e
  simp at this
theorem lap_of {w : World} {g h : Heap} {L : Addr} {ax le k : Int} {mN : Nat} {dk ce rl : Addr} {cv rv : List Value} {n1 n nn : Nat} {V : Tre} {bs : List (Addr × Obj)} {oa ol ot orr : Obj} {ta tl tk : Tok} {R : Win} {kids : List Kid}
    (S : Sp w ax bs V R kids) (N : News g L h (led w.params R kids (spb w.params V R kids nn bs))) (hl10 : kids.length ≤ 9)
    (c1 : (dk, listOf #[.ref ce, .int k tk] 0) ∈ bs) (c2 : (L + 1 + 1 + 1, orr) ∈ bs) (hor : orr.data = .cell (some (.ref rl))) (c3 : (rl, listOf rv.toArray n) ∈ bs) (c4 : (ce, listOf cv.toArray n1) ∈ bs)
    (c5 : (L + 1, oa) ∈ bs) (c5' : oa.data = .cell (some (.int ax ta))) (c6 : (L + 1 + 1, ol) ∈ bs) (c6' : ol.data = .cell (some (.int le tl))) (c7 : (L + 1 + 1 + 1 + 1, ot) ∈ bs) (c7' : ot.data = .cell (some (.ref V.x)))
    (d1 : dk ≠ L + 1 + 1 + 1) (d2 : rl ≠ dk) (d3 : rl ≠ L + 1 + 1 + 1) (d4 : ce ≠ dk) (d5 : ce ≠ L + 1 + 1 + 1) (d6 : L + 1 ≠ dk) (d7 : L + 1 + 1 ≠ dk) (d8 : L + 1 + 1 + 1 + 1 ≠ dk)
    (hle : (if ax = 0 then V.lw else V.lh) = le) (pl : PlK ax 0 kids) (ge : ∀ z ∈ kids.map (·.1.size ax), le ≤ z) (len : kids.length = mN) (m2 : 2 ≤ mN) :
    ∃ bs2, LapS w L ax le mN dk ce cv n1 V bs2 oa ol ot ta tl R kids rl ∧ ∀ p ∈ lapL w.params L dk ce k tk 0 orr rl rv n R kids bs2, p ∈ led w.params R kids (spb w.params V R kids nn bs) := by
  have B := S.ba (n := nn) (by omega)
  have t : ∀ {q : Addr × Obj}, q ∈ bs → q ∈ spb w.params V R kids nn bs := fun hq => .tail _ (.tail _ (.tail _ hq))
  have inL : ∀ {q : Addr × Obj}, q ∈ spb w.params V R kids nn bs → q ∈ led w.params R kids (spb w.params V R kids nn bs) := fun hq => led_base hq
  have kp : ∀ {a : Addr} {o : Obj}, (a, o) ∈ led w.params R kids (spb w.params V R kids nn bs) → o ≠ listOf #[.ref ce, .int k tk] 0 → o.data ≠ .cell (some (.ref rl)) → a ≠ dk ∧ a ≠ L + 1 + 1 + 1 := fun hm h1 h2 => ⟨key_ne N hm (inL (t c1)) h1, key_ne N hm (inL (t c2)) (fun e => h2 (by rw [e]; exact hor))⟩
  have fl : ∀ {a : Addr} {o : Obj}, (a, o) ∈ spb w.params V R kids nn bs → a ≠ dk ∧ a ≠ L + 1 + 1 + 1 → (a, o) ∈ (spb w.params V R kids nn bs).filter fun q => decide (q.1 ≠ dk ∧ q.1 ≠ L + 1 + 1 + 1) := fun hm hh => List.mem_filter.mpr ⟨hm, decide_eq_true hh⟩
  have kf : ∀ {a : Addr} {o : Obj}, (a, o) ∈ spb w.params V R kids nn bs → o ≠ listOf #[.ref ce, .int k tk] 0 → o.data ≠ .cell (some (.ref rl)) → (a, o) ∈ (spb w.params V R kids nn bs).filter fun q => decide (q.1 ≠ dk ∧ q.1 ≠ L + 1 + 1 + 1) := fun hm h1 h2 => fl hm (kp (inL hm) h1 h2)
  have hemp : ∀ {n : Nat}, listOf #[] n ≠ listOf #[.ref ce, .int k tk] 0 := fun e => by
    have := congrArg Obj.data e
    simp at this
  have hdec : ∀ {es : List DictEntry} {n : Nat}, (dictOf es n).data ≠ .cell (some (.ref rl)) := fun e => by simp at e
  have hli : ∀ {its : Array Value} {n : Nat}, (listOf its n).data ≠ .cell (some (.ref rl)) := fun e => by simp at e
  have hin : ∀ {c d : Addr}, (instObj c d).data ≠ .cell (some (.ref rl)) := fun e => by simp at e
  have hwo1 : V.wo ≠ listOf #[.ref ce, .int k tk] 0 := fun e => by
    obtain ⟨_, _, _, q, _⟩ := S.is
    rw [e] at q
    cases q
  have hwo2 : V.wo.data ≠ .cell (some (.ref rl)) := fun e => by
    obtain ⟨_, _, _, q, _⟩ := S.is
    rw [q] at e
    cases e
  have hrc : listOf (kids.map kv).toArray nn ≠ listOf #[.ref ce, .int k tk] 0 := fun e => by
    have := congrArg Obj.data e
    obtain ⟨p, r, hk⟩ := List.exists_cons_of_ne_nil S.ne
    rw [hk] at this
    simp at this
  refine ⟨(spb w.params V R kids nn bs).filter fun q => decide (q.1 ≠ dk ∧ q.1 ≠ L + 1 + 1 + 1), ?_, ?_⟩
  · exact {
      ba := {
        tre := ⟨kf B.tre.x inst_ne_list hin, kf B.tre.d dict_ne_list hdec, kf B.tre.wi hwo1 hwo2, B.tre.is, B.tre.lo⟩
        rx := kf B.rx inst_ne_list hin
        rat := B.rat
        rchi := ⟨nn, kf (.tail _ (.tail _ (.head _))) hrc hli⟩
        rsort := B.rsort
        rpar := B.rpar
        rnz := B.rnz
        root := B.root
        ne := B.ne
        len := B.len
        nd := B.nd
        kx := fun p hp => ⟨kf (B.kx p hp).1 inst_ne_list hin, (B.kx p hp).2.1, (B.kx p hp).2.2.1, (B.kx p hp).2.2.2.1, (B.kx p hp).2.2.2.2.imp fun _ z => kf z hemp hli⟩
        rd := fun q hq => B.rd q (List.mem_filter.mp hq).1
        kd := fun p hp q hq => B.kd p hp q (List.mem_filter.mp hq).1
        rk := B.rk
        dd := B.dd
        nz := B.nz }
      off := fun q hq => by
        unfold led at hq
        rcases List.mem_cons.mp hq with e | hq
        · rw [e]; exact kp led_root dict_ne_list hdec
        · rcases List.mem_append.mp hq with hq | hq
          · obtain ⟨p, hp, e⟩ := List.mem_map.mp hq
            rw [← e]; exact kp (led_kid hp) dict_ne_list hdec
          · exact of_decide_eq_true (List.mem_filter.mp hq).2
      offr := ⟨Ne.symm (key_ne N led_root (inL (t c3)) dict_ne_list), fun p hp => Ne.symm (key_ne N (led_kid hp) (inL (t c3)) dict_ne_list)⟩
      d1 := d1
      d2 := d2
      d3 := d3
      ce := fl (t c4) ⟨d4, d5⟩
      ca := fl (t c5) ⟨d6, Nat.ne_of_lt (Nat.lt_succ_of_lt (Nat.lt_succ_self _))⟩
      ca2 := c5'
      cl := fl (t c6) ⟨d7, Nat.ne_of_lt (Nat.lt_succ_self _)⟩
      cl2 := c6'
      ct := fl (t c7) ⟨d8, Nat.ne_of_gt (Nat.lt_succ_self _)⟩
      ct2 := c7'
      hle := hle
      rax := S.rax
      pl := pl
      ge := ge
      len := len
      m2 := m2
      m9 := by omega }
  · refine List.forall_mem_cons.mpr ⟨inL (t c1), List.forall_mem_cons.mpr ⟨inL (t c2), List.forall_mem_cons.mpr ⟨inL (t c3), fun p hp => ?_⟩⟩⟩
    unfold led at hp ⊢
    rcases List.mem_cons.mp hp with e | hp
    · rw [e]; exact .head _
    · rcases List.mem_append.mp hp with hp | hp
      · exact .tail _ (List.mem_append_left _ hp)
      · exact .tail _ (List.mem_append_right _ (List.mem_filter.mp hp).1)


end PartZip
section PartZip2

structure Sm (n : Nat) : Prop where
  h2 : 2 ≤ n
  h5 : n ≤ 5
theorem rng_ind2 {prog : Program} {w : World} {A : Around} {E : Value → Shared → Prop} {h₀ : Heap} {env : Env} {x : Str} {body : List Stmt} {Q : Flow → Shared → Prop} {s : Shared} {I : Addr} {a : Int} {n : Nat} {m : Str → Option Value} {news : List (Addr × Obj)}
    (Inv : Nat → (Str → Option Value) → List (Addr × Obj) → Prop) (h0 : Inv 0 m news)
    (turn : ∀ i m news, i < n → Inv i m news → ∀ (t : Tok) (it : Obj) (h : Heap) (tk : Nat), it.cls = .type "range_iterator" → Fr h₀ env.locals h (fun y => if y = x then some (.int (a + (i : Int)) t) else m y) → News h₀ env.locals h ((I, it) :: news) →
      wpAny (model prog w) A (execs body env) (RStep h₀ env.locals { s with heap := h, toks := tk } I it (Inv (i + 1)) Q) E { s with heap := h, toks := tk })
    (done : ∀ m news h tk, Inv n m news → Fr h₀ env.locals h m → News h₀ env.locals h news → Q .next { s with heap := h, toks := tk }) :
    RangeRest prog w A E h₀ env x body Q s I a n n 0 m news := by
  have key : ∀ k i m news, i + k = n → Inv i m news → RangeRest prog w A E h₀ env x body Q s I a n k i m news := by
    intro k
    induction k with
    | zero => intro i m news e hi; exact RangeRest.zero fun h tk F N => done m news h tk ((show i = n by omega) ▸ hi) F N
    | succ k ih =>
      intro i m news e hi
      refine RangeRest.succ fun t h tk F N => ?_
      refine wpAny_mono (turn i m news (by omega) hi t _ h tk rfl F N) (fun f s₂ q => ?_) fun _ _ z => z
      have q := q.ex
      cases f with
      | ret v => exact q
      | brk => exact q
      | next => obtain ⟨h', tk', m', news', rfl, F', N', off, hi'⟩ := q; exact UnrEnd.intro F' N' news' (fun p hp => hp) off (ih (i + 1) m' news' (by omega) hi')
      | cont => obtain ⟨h', tk', m', news', rfl, F', N', off, hi'⟩ := q; exact UnrEnd.intro F' N' news' (fun p hp => hp) off (ih (i + 1) m' news' (by omega) hi')
  exact key n 0 m news (Nat.zero_add _) h0
theorem it_ne {o it : Obj} (hc : it.cls = .type "range_iterator") (ho : o.cls ≠ .type "range_iterator") : o ≠ it := fun e => ho (by rw [e]; exact hc)
theorem in_pop {a I : Addr} {o it : Obj} {bs : List (Addr × Obj)} (hc : it.cls = .type "range_iterator") (ho : o.cls ≠ .type "range_iterator") (h : (a, o) ∈ (I, it) :: bs) : (a, o) ∈ bs := by
  rcases List.mem_cons.mp h with e | h
  · exact absurd (Prod.mk.inj e).2 (it_ne hc ho)
  · exact h
theorem cls_inst {c d : Addr} : (instObj c d).cls ≠ .type "range_iterator" := fun e => by cases e
theorem cls_dict {es : List DictEntry} {n : Nat} : (dictOf es n).cls ≠ .type "range_iterator" := fun e => by simp at e
theorem cls_list {its : Array Value} {n : Nat} : (listOf its n).cls ≠ .type "range_iterator" := fun e => by simp at e
theorem Ba.pop {w : World} {bs : List (Addr × Obj)} {V : Tre} {R : Win} {kids : List Kid} {I : Addr} {it : Obj} (hc : it.cls = .type "range_iterator") (hwo : V.wo.cls ≠ .type "range_iterator") (h : Ba w ((I, it) :: bs) V R kids) : Ba w bs V R kids where
  tre := ⟨in_pop hc cls_inst h.tre.x, in_pop hc cls_dict h.tre.d, in_pop hc hwo h.tre.wi, h.tre.is, h.tre.lo⟩
  rx := in_pop hc cls_inst h.rx
  rat := h.rat
  rchi := h.rchi.imp fun _ z => in_pop hc cls_list z
  rsort := h.rsort
  rpar := h.rpar
  rnz := h.rnz
  root := h.root
  ne := h.ne
  len := h.len
  nd := h.nd
  kx := fun p hp => ⟨in_pop hc cls_inst (h.kx p hp).1, (h.kx p hp).2.1, (h.kx p hp).2.2.1, (h.kx p hp).2.2.2.1, (h.kx p hp).2.2.2.2.imp fun _ z => in_pop hc cls_list z⟩
  rd := fun q hq => h.rd q (.tail _ hq)
  kd := fun p hp q hq => h.kd p hp q (.tail _ hq)
  rk := h.rk
  dd := h.dd
  nz := h.nz
theorem wo_cls {w : World} {V : Tre} (h : V.wo.IsDictOf (PySem.intKind PySem.Challenge.rw_np0057_01.row.prog w) V.kvs) : V.wo.cls ≠ .type "range_iterator" := by
  obtain ⟨_, _, e, _⟩ := h
  intro z
  have := e.1
  rw [z] at this
  simp at this
theorem Sp.drop {w : World} {g h : Heap} {L a : Addr} {o : Obj} {ax : Int} {bs : List (Addr × Obj)} {V : Tre} {R : Win} {kids : List Kid} {nn : Nat} (S : Sp w ax bs V R kids) (N : News g L h (led w.params R kids (spb w.params V R kids nn bs))) (ha : (a, o) ∈ bs) (hc : o.cls = .type "range_iterator") :
    Sp w ax (bs.filter fun q => decide (q.1 ≠ a)) V R kids ∧ (∀ q ∈ led w.params R kids (spb w.params V R kids nn (bs.filter fun q => decide (q.1 ≠ a))), q ∈ led w.params R kids (spb w.params V R kids nn bs) ∧ q.1 ≠ a) := by
  have t : ∀ {q : Addr × Obj}, q ∈ bs → q ∈ led w.params R kids (spb w.params V R kids nn bs) := fun hq => led_base (.tail _ (.tail _ (.tail _ hq)))
  have kn : ∀ {b : Addr} {u : Obj}, (b, u) ∈ led w.params R kids (spb w.params V R kids nn bs) → u.cls ≠ .type "range_iterator" → b ≠ a := fun hm hu => key_ne N hm (t ha) (it_ne hc hu)
  have kf : ∀ {b : Addr} {u : Obj}, (b, u) ∈ bs → u.cls ≠ .type "range_iterator" → (b, u) ∈ bs.filter fun q => decide (q.1 ≠ a) := fun hm hu => List.mem_filter.mpr ⟨hm, decide_eq_true (kn (t hm) hu)⟩
  refine ⟨{ S with
    vx := kf S.vx cls_inst
    rx := kf S.rx cls_inst
    kx := fun p hp => ⟨kf (S.kx p hp).1 cls_inst, (S.kx p hp).2.1, (S.kx p hp).2.2.1, (S.kx p hp).2.2.2.1, (S.kx p hp).2.2.2.2.1.imp fun _ z => kf z cls_list, (S.kx p hp).2.2.2.2.2.1.imp fun _ z => kf z cls_list, (S.kx p hp).2.2.2.2.2.2⟩
    off := fun q hq => S.off q (List.mem_filter.mp hq).1 }, fun q hq => ?_⟩
  unfold led at hq ⊢
  rcases List.mem_cons.mp hq with e | hq
  · rw [e]; exact ⟨.head _, kn led_root cls_dict⟩
  · rcases List.mem_append.mp hq with hq | hq
    · refine ⟨.tail _ (List.mem_append_left _ hq), ?_⟩
      obtain ⟨p, hp, e⟩ := List.mem_map.mp hq
      rw [← e]; exact kn (led_kid hp) cls_dict
    · rcases List.mem_cons.mp hq with e | hq
      · rw [e]; exact ⟨.tail _ (List.mem_append_right _ (.head _)), kn (led_base (.head _)) cls_dict⟩
      · rcases List.mem_cons.mp hq with e | hq
        · rw [e]; exact ⟨.tail _ (List.mem_append_right _ (.tail _ (.head _))), kn (led_base (.tail _ (.head _))) (wo_cls S.is)⟩
        · rcases List.mem_cons.mp hq with e | hq
          · rw [e]; exact ⟨.tail _ (List.mem_append_right _ (.tail _ (.tail _ (.head _)))), kn (led_base (.tail _ (.tail _ (.head _)))) cls_list⟩
          · have z := List.mem_filter.mp hq
            exact ⟨.tail _ (List.mem_append_right _ (.tail _ (.tail _ (.tail _ z.1)))), of_decide_eq_true z.2⟩
theorem PreS.push {w : World} {ax : Int} {V : Tre} {W : Win} {t : Tok} {ks : List Kid} {bs news : List (Addr × Obj)} {a : Addr} {o : Obj} (h : PreS w ax V W t ks bs news) (hn : ∀ p ∈ news, p.1 ≠ a) : ∃ news2, PreS w ax V W t ks ((a, o) :: bs) news2 ∧ ∀ p ∈ news2, p ∈ (a, o) :: news := by
  cases h with
  | first e vx is lo wx hv hp hroot hl hnum hkl hso hc he sh hax d1 d2 d3 off =>
    refine ⟨_, .first e (.tail _ vx) is lo (.tail _ wx) hv hp hroot hl hnum hkl hso (hc.imp fun _ z => .tail _ z) (he.imp fun _ z => .tail _ z) sh hax d1 d2 d3 (List.forall_mem_cons.mpr ⟨⟨Ne.symm (hn _ (.head _)), Ne.symm (hn _ (.tail _ (.head _))), Ne.symm (hn _ (.tail _ (.tail _ (.head _))))⟩, off⟩), fun p hp => ?_⟩
    simp only [List.mem_cons] at hp ⊢
    rcases hp with h | h | h | h | h
    · exact .inr (.inl h)
    · exact .inr (.inr (.inl h))
    · exact .inr (.inr (.inr (.inl h)))
    · exact .inl h
    · exact .inr (.inr (.inr (.inr h)))
  | next S hl =>
    rename_i R nn
    refine ⟨_, .next (n := nn) { S with
      vx := .tail _ S.vx
      rx := .tail _ S.rx
      kx := fun p hp => ⟨.tail _ (S.kx p hp).1, (S.kx p hp).2.1, (S.kx p hp).2.2.1, (S.kx p hp).2.2.2.1, (S.kx p hp).2.2.2.2.1.imp fun _ z => .tail _ z, (S.kx p hp).2.2.2.2.2.1.imp fun _ z => .tail _ z, (S.kx p hp).2.2.2.2.2.2⟩
      off := List.forall_mem_cons.mpr ⟨fun hm => ?_, S.off⟩ } hl, fun p hp => ?_⟩
    · simp only [List.mem_cons] at hm
      rcases hm with h | h | h | h | h
      · exact hn (V.d, _) (led_base (.head _)) h.symm
      · exact hn (V.wd, _) (led_base (.tail _ (.head _))) h.symm
      · exact hn (R.chi, _) (led_base (.tail _ (.tail _ (.head _)))) h.symm
      · exact hn _ led_root h.symm
      · obtain ⟨k, hk, e⟩ := List.mem_map.mp h
        exact hn _ (led_kid hk) e
    · simp only [led, spb, List.mem_cons, List.mem_append] at hp ⊢
      rcases hp with h | h | h | h | h | h | h
      · exact .inr (.inl h)
      · exact .inr (.inr (.inl h))
      · exact .inr (.inr (.inr (.inl h)))
      · exact .inr (.inr (.inr (.inr (.inl h))))
      · exact .inr (.inr (.inr (.inr (.inr (.inl h)))))
      · exact .inl h
      · exact .inr (.inr (.inr (.inr (.inr (.inr h)))))


end PartZip2
section PartD24
theorem words_25 : True := by
  k_with_none
  k_with "room" => first | exact rm2 hd rfl | exact rm1 hd rfl | exact rm0 hd | exact rm3 hd rfl | exact Nat.le_of_ble_eq_true rfl
  k_with "units" => first | exact rm2 hu rfl | exact rm1 hu rfl | exact rm0 hu | exact rm3 hu rfl | exact Nat.le_of_ble_eq_true rfl
  k_with "pj" => first | with_reducible assumption | with_reducible exact And.left (by assumption) | with_reducible exact And.left (And.right (by assumption)) | with_reducible exact And.right (by assumption) | with_reducible exact And.left (And.right (And.right (by assumption))) | with_reducible exact And.right (And.right (by assumption)) | with_reducible exact And.left (And.right (And.right (And.right (by assumption)))) | with_reducible exact And.right (And.right (And.right (by assumption))) | with_reducible exact And.left (And.right (And.right (And.right (And.right (by assumption))))) | with_reducible exact And.right (And.right (And.right (And.right (by assumption)))) | with_reducible exact And.left (And.right (And.right (And.right (And.right (And.right (by assumption)))))) | with_reducible exact And.right (And.right (And.right (And.right (And.right (by assumption))))) | with_reducible exact And.left (And.right (And.right (And.right (And.right (And.right (And.right (by assumption))))))) | with_reducible exact And.right (And.right (And.right (And.right (And.right (And.right (by assumption)))))) | with_reducible exact And.left (And.right (And.right (And.right (And.right (And.right (And.right (And.right (by assumption)))))))) | with_reducible exact And.right (And.right (And.right (And.right (And.right (And.right (And.right (by assumption))))))) | with_reducible exact And.left (And.right (And.right (And.right (And.right (And.right (And.right (And.right (And.right (by assumption))))))))) | with_reducible exact And.right (And.right (And.right (And.right (And.right (And.right (And.right (And.right (by assumption)))))))) | with_reducible exact And.left (And.right (And.right (And.right (And.right (And.right (And.right (And.right (And.right (And.right (by assumption)))))))))) | with_reducible exact And.right (And.right (And.right (And.right (And.right (And.right (And.right (And.right (And.right (by assumption))))))))) | with_reducible exact And.left (And.right (And.right (And.right (And.right (And.right (And.right (And.right (And.right (And.right (And.right (by assumption))))))))))) | with_reducible exact And.right (And.right (And.right (And.right (And.right (And.right (And.right (And.right (And.right (And.right (by assumption)))))))))) | with_reducible exact And.left (And.right (And.right (And.right (And.right (And.right (And.right (And.right (And.right (And.right (And.right (And.right (by assumption)))))))))))) | with_reducible exact And.right (And.right (And.right (And.right (And.right (And.right (And.right (And.right (And.right (And.right (And.right (by assumption))))))))))) | with_reducible exact And.left (And.right (And.right (And.right (And.right (And.right (And.right (And.right (And.right (And.right (And.right (And.right (And.right (by assumption))))))))))))) | with_reducible exact And.right (And.right (And.right (And.right (And.right (And.right (And.right (And.right (And.right (And.right (And.right (And.right (by assumption)))))))))))) | with_reducible exact And.left (And.right (And.right (And.right (And.right (And.right (And.right (And.right (And.right (And.right (And.right (And.right (And.right (And.right (by assumption)))))))))))))) | with_reducible exact And.right (And.right (And.right (And.right (And.right (And.right (And.right (And.right (And.right (And.right (And.right (And.right (And.right (by assumption)))))))))))))
  k_with "ne0" => (refine neN ?_; (try dsimp only); first | with_reducible assumption | exact Ne.symm (by with_reducible assumption) | exact Nat.ne_of_lt (by walk_at "pj") | exact Nat.ne_of_gt (by walk_at "pj") | walk_at "ne1")
  k_with "allmem" => first | exact List.forall_mem_nil _ | exact List.forall_mem_cons.mpr ⟨by k_mem, by walk_at "allmem"⟩ | exact all_self | exact all_tail (by walk_at "allmem")
  k_with "subscriptTail" => (k_here; (with_reducible show wpAny _ _ (subscriptTail _ _ (Value.ref _) (Value.int _ _)) _ _ _); k_dflt (refine kdt_tail (knd := PySem.intKind _ _) (by k_asm) (by k_mem) (by k_asm) ?_))
  k_with "getItem ref int" => (k_here; k_dflt (refine kdt_getItem (knd := PySem.intKind _ _) (by k_asm) (by k_mem) (by k_asm) (intKind_is _ _ _ _) (by first | k_asm | exact valueAt_stored) ?_))
  k_with "getMethod ref" => (k_here; (with_reducible show wpAny _ _ (getMethod (Value.ref _) (Str.ofString "get") _) _ _ _); k_dflt (refine kdg_method (knd := PySem.intKind _ _) (by k_asm) (by k_mem) (by k_asm) ?_))
  k_with "call builtin:dict.get" => (k_here; k_dflt (refine kdg_get2 (knd := PySem.intKind _ _) (by k_asm) (by k_mem) (by k_asm) (by k_asm) (intKind_is _ _ _ _) (some _) (by k_asm) ?_); (try dsimp only [Option.getD]))
  k_with "compareOp NotEq ref ref" => (k_here; k_dflt (first | (refine ne_nil_none (by k_asm) (by k_mem) (by k_mem) (by ktr_units) ?_) | (refine ne_nil_some (by k_asm) (by k_mem) (by k_mem) (by first | rfl | simp) (by ktr_units) ?_)))
  k_with "k_mem" => first | with_reducible assumption | with_reducible exact List.mem_cons_self | (with_reducible refine List.mem_cons_of_mem _ ?_; k_mem) | assumption
  k_with "eval Name" => (k_dflt (first
    | (refine' nameX_L ?wF ?wv ?_ ?wa ?wb; (case wF => with_reducible assumption); (case wa => rfl); (case wb => rfl); (case wv => first | rfl | assumption); k_whole)
    | (refine' nameX_K ?wF ?wX ?wT ?we ?_ ?wa ?wb; (case wF => k_asm); (case wX => k_asm); (case wT => k_asm); (case wa => rfl); (case wb => rfl); (case we => k_is); k_whole)))
  k_with "callWith" => first
    | with_reducible refine callWith_method0 ?_
    | (with_reducible refine' callWith_method1 ?_ ?whe ?whp; (case whe => k_dflt exact rfl); (case whp => k_dflt exact rfl))
  k_with "newList" => (k_dflt (refine' newList_K ?wk1 ?wk2 ?_; (case wk1 => k_asm); (case wk2 => k_asm); k_whole); intro _ _ _ _ wl1; (try k_lt wl1); (try k_sweep); (revert wl1; intro _))
  k_with "execs cons" => ((try k_gentoks); (with_reducible refine wpAny_execs_cons ?_); try dsimp only)
  k_with "exec Assign" => first
    | (with_reducible refine' wpAny_Assign_Name ?_ ?whs; (case whs => k_dflt exact rfl))
    | (with_reducible refine plainObj_wpAny_Assign_Attribute ?_ ?_; rotate_left; with_unfolding_all rfl)
  k_with "subscriptTail Attribute" => ((with_reducible show wpAny _ _ (subscriptTail _ (PySem.Expr.Slice _ _ _ _) _ _) _ _ _); k_dflt (refine kba_turn (value' := PySem.Expr.Name (PySem.Str.ofString "_") ⟨0, 0, 0, 0⟩) (fun _ => rfl) ?_))
  k_with "exec While" => (k_dflt (refine whl_start 100 ?_))
  k_with "eval Call Attribute" => (refine MethodCall_ ?_)
  k_with "getAttr ref" => (k_dflt (refine' get_own ?wk1 ?wk2 ?wk3 ?wk4 ?wk5 ?wk6 ?wk7 ?wk8 ?wk9 ?_; (case wk1 => k_asm); (case wk2 => k_asm); (case wk3 => (refine' InstAt.of_news ?wN ?wh1 ?wh2; (case wN => k_asm); (case wh1 => k_mem); (case wh2 => k_mem))); (case wk4 => k_is); (case wk5 => k_is); (case wk6 => k_is); (case wk7 => k_is); (case wk8 => k_get); (case wk9 => rfl); k_whole))
  k_with "tin" => first | with_reducible assumption | (with_reducible refine TreIn.cons ?_; walk_at "tin") | (with_reducible refine WinIn.cons ?_; walk_at "tin") | (with_reducible refine LeafIn.cons ?_; walk_at "tin") | (with_reducible refine RootIn.cons ?_; walk_at "tin") | exact St.cons (by walk_at "tin")
  k_with "UnrEnd" => (k_dflt (first   | (refine' unr_at [] ?wF ?wN ?wo1 ?wo2 ?_; (case wF => k_asm); (case wN => k_asm); (case wo1 => k_all); (case wo2 => k_all))   | (refine' unr_at [_] ?wF ?wN ?wo1 ?wo2 ?_; (case wF => k_asm); (case wN => k_asm); (case wo1 => k_all); (case wo2 => k_all))   | (refine' unr_at [_, _] ?wF ?wN ?wo1 ?wo2 ?_; (case wF => k_asm); (case wN => k_asm); (case wo1 => k_all); (case wo2 => k_all))   | (refine' unr_at [_, _, _] ?wF ?wN ?wo1 ?wo2 ?_; (case wF => k_asm); (case wN => k_asm); (case wo1 => k_all); (case wo2 => k_all))   | (refine' unr_at [_, _, _, _] ?wF ?wN ?wo1 ?wo2 ?_; (case wF => k_asm); (case wN => k_asm); (case wo1 => k_all); (case wo2 => k_all))   | (refine' unr_at [_, _, _, _, _] ?wF ?wN ?wo1 ?wo2 ?_; (case wF => k_asm); (case wN => k_asm); (case wo1 => k_all); (case wo2 => k_all))   | (refine' unr_at [_, _, _, _, _, _] ?wF ?wN ?wo1 ?wo2 ?_; (case wF => k_asm); (case wN => k_asm); (case wo1 => k_all); (case wo2 => k_all))); (try dsimp only [List.cons_append, List.nil_append]); (refine ⟨by k_mem, ?_⟩))
  k_with "pyIter ref" => ((with_reducible show wpAny _ _ (pyIter (Value.ref _)) (fun it s₂ => LoopAtV _ _ _ _ _ _ _ _ _ it s₂) _ _); k_dflt (first | (refine' iter_listUnr rfl ?wF ?wN ?whm ?whc ?whd ?_; (case wF => k_asm); (case wN => k_asm); (case whm => k_mem); (case whc => exact rfl); (case whd => exact rfl)) | (refine' iter_listUnr (vs := [_]) rfl ?wF ?wN ?whm ?whc ?whd ?_; (case wF => k_asm); (case wN => k_asm); (case whm => k_mem); (case whc => exact rfl); (case whd => exact rfl))); intro _ wlI; (try k_lt wlI); (revert wlI; intro _))
  k_with "exec For" => ((with_unfolding_all refine' For_invVF (by k_asm) ?wk1 ?wk2 ?_; (case wk1 => exact rfl); (case wk2 => exact rfl); k_whole))
  k_with "ite" => first
    | with_reducible refine ite_eqp (by first | assumption | omega) ?_ | with_reducible refine ite_eqn (by first | assumption | omega) ?_
    | with_reducible refine ite_nep (by first | assumption | omega) ?_ | with_reducible refine ite_nen (by first | assumption | omega) ?_
    | with_reducible refine ite_decp (by first | assumption | omega) ?_ | with_reducible refine ite_decn (by first | assumption | omega) ?_
  k_with "call builtin:list.pop" => (k_dflt (refine' pop_l ?wF ?wN ?wU ?wz ?_; (case wF => k_asm); (case wN => k_asm); (case wU => walk_at "upd"); (case wz => (simp only [List.length_append, List.length_reverse, List.length_map, List.length_cons, List.length_nil] at *; omega)); k_whole); intro _ _ wN'; (try dsimp only at wN'); (try k_sweep); (revert wN'; intro _))
  k_with "call builtin:list.append" => (k_dflt (refine' append_l ?wF ?wN ?wU ?wz ?_; (case wF => k_asm); (case wN => k_asm); (case wU => walk_at "upd"); (case wz => (simp only [List.length_append, List.length_reverse, List.length_map, List.length_cons, List.length_nil] at *; omega)); k_whole); intro _ _ wN'; (try dsimp only at wN'); (try k_sweep); (revert wN'; intro _))
  k_with "call builtin:list.extend" => (k_dflt (refine' extend_l ?wF ?wN ?wb ?wne ?wU ?wz ?_; (case wF => k_asm); (case wN => k_asm); (case wb => k_mem); (case wne => first | (simp; done) | (simp; assumption)); (case wU => k_upd); (case wz => (simp only [List.length_append, List.length_reverse, List.length_map, List.length_cons, List.length_nil] at *; omega)); k_whole); intro _ _ wN'; (try dsimp only at wN'); (try k_sweep); (revert wN'; intro _))
  k_with "subscriptTail Name Slice ref ref" => ((with_reducible show wpAny _ _ (subscriptTail _ (PySem.Expr.Slice none none (some _) _) (Value.ref _) (Value.ref _)) _ _ _); k_dflt (refine' rev_l ?wF ?wN ?wl ?wk ?wz ?_ ?ws ?wt; (case wF => k_asm); (case wN => k_asm); (case wl => k_mem); (case wk => exact IsPart.int _ _); (case ws => with_unfolding_all rfl); (case wt => kmk_pure); (case wz => (simp only [List.length_append, List.length_reverse, List.length_map, List.length_cons, List.length_nil] at *; omega))); intro _ _ _ _ wl1; (try k_lt wl1); (try dsimp only); (try k_sweep); (revert wl1; intro _))
  k_with "lt_end" => first | with_reducible assumption | exact PySem.W.ktn_ltOf (by walk_at "alllt")
  k_with "WhlIf" => first
    | (refine whlif_t (by first | rfl | (simp only [bne_iff_ne, ne_eq, beq_iff_eq, decide_eq_true_eq]; first | assumption | omega)) ?_)
    | (refine whlif_f (by first | rfl | (simp only [bne_eq_false_iff_eq, beq_eq_false_iff_ne, ne_eq, decide_eq_false_iff_not]; first | assumption | omega)) ?_)
  k_with "alllt" => first | with_reducible assumption | exact PySem.W.allLt_of (by with_reducible assumption) | with_reducible exact And.right (by assumption) | with_reducible exact And.right (And.right (by assumption)) | with_reducible exact And.right (And.right (And.right (by assumption))) | with_reducible exact And.right (And.right (And.right (And.right (by assumption)))) | with_reducible exact And.right (And.right (And.right (And.right (And.right (by assumption))))) | with_reducible exact And.right (And.right (And.right (And.right (And.right (And.right (by assumption)))))) | with_reducible exact And.right (And.right (And.right (And.right (And.right (And.right (And.right (by assumption))))))) | with_reducible exact And.right (And.right (And.right (And.right (And.right (And.right (And.right (And.right (by assumption))))))))
  k_with "off" => first | with_reducible assumption | exact List.forall_mem_nil _ | exact List.forall_mem_cons.mpr ⟨by first | with_reducible assumption | exact ne_cell2 (by assumption) (by assumption) | exact ne_cell1 (by assumption) (by assumption) | exact ne_cell3 (by assumption) (by assumption) | exact ne_all (by walk_at "alllt") (by assumption) | k_ne, by walk_at "off"⟩ | exact fun p hp => Nat.ne_of_lt (ktn_ltOf (by walk_at "alllt") p hp) | k_all
  k_with "upd" => first | with_reducible assumption | exact Upd.head (by walk_at "off") | exact Upd.tail (by first | with_reducible assumption | exact ne_cell2 (by assumption) (by assumption) | exact ne_cell1 (by assumption) (by assumption) | exact ne_cell3 (by assumption) (by assumption) | exact ne_all (by walk_at "alllt") (by assumption) | k_ne) (by walk_at "upd") | k_upd
  k_with "getAttr ref" => (k_dflt (first
    | (with_reducible refine' gw_num ?wF ?wX ?wN ?wh1 ?wh2 ?_; (case wF => k_asm); (case wX => k_asm); (case wN => k_asm); (case wh1 => k_mem); (case wh2 => k_mem))
    | (with_reducible refine' gw_sort ?wF ?wX ?wN ?wh1 ?wh2 ?_; (case wF => k_asm); (case wX => k_asm); (case wN => k_asm); (case wh1 => k_mem); (case wh2 => k_mem))
    | (with_reducible refine' gw_par ?wF ?wX ?wN ?wh1 ?wh2 ?_; (case wF => k_asm); (case wX => k_asm); (case wN => k_asm); (case wh1 => k_mem); (case wh2 => k_mem))
    | (with_reducible refine' gw_chi ?wF ?wX ?wN ?wh1 ?wh2 ?_; (case wF => k_asm); (case wX => k_asm); (case wN => k_asm); (case wh1 => k_mem); (case wh2 => k_mem))
    | (with_reducible refine' gw_left ?wF ?wX ?wN ?wh1 ?wh2 ?_; (case wF => k_asm); (case wX => k_asm); (case wN => k_asm); (case wh1 => k_mem); (case wh2 => k_mem))
    | (with_reducible refine' gw_top ?wF ?wX ?wN ?wh1 ?wh2 ?_; (case wF => k_asm); (case wX => k_asm); (case wN => k_asm); (case wh1 => k_mem); (case wh2 => k_mem))
    | (with_reducible refine' gw_wid ?wF ?wX ?wN ?wh1 ?wh2 ?_; (case wF => k_asm); (case wX => k_asm); (case wN => k_asm); (case wh1 => k_mem); (case wh2 => k_mem))
    | (with_reducible refine' gw_hei ?wF ?wX ?wN ?wh1 ?wh2 ?_; (case wF => k_asm); (case wX => k_asm); (case wN => k_asm); (case wh1 => k_mem); (case wh2 => k_mem))); k_whole)
  k_with "getAttr ref" => (k_dflt (first
    | (with_reducible refine' gt_windows ?wF ?wX ?wN ?wh1 ?wh2 ?_; (case wF => k_asm); (case wX => k_asm); (case wN => k_asm); (case wh1 => k_mem); (case wh2 => k_mem))
    | (with_reducible refine' gt_lw ?wF ?wX ?wN ?wh1 ?wh2 ?_; (case wF => k_asm); (case wX => k_asm); (case wN => k_asm); (case wh1 => k_mem); (case wh2 => k_mem))
    | (with_reducible refine' gt_lh ?wF ?wX ?wN ?wh1 ?wh2 ?_; (case wF => k_asm); (case wX => k_asm); (case wN => k_asm); (case wh1 => k_mem); (case wh2 => k_mem))
    | (with_reducible refine' gt_root ?wF ?wX ?wN ?wh1 ?wh2 ?_; (case wF => k_asm); (case wX => k_asm); (case wN => k_asm); (case wh1 => k_mem); (case wh2 => k_mem))); k_whole)
  k_with "setAttr ref" => (k_dflt (first
    | (with_reducible refine' sw_wid ?wF ?wX ?wN ?wh1 ?wh2 ?wU ?_; (case wF => k_asm); (case wX => k_asm); (case wN => k_asm); (case wh1 => k_mem); (case wh2 => k_mem); (case wU => walk_at "upd"))
    | (with_reducible refine' sw_hei ?wF ?wX ?wN ?wh1 ?wh2 ?wU ?_; (case wF => k_asm); (case wX => k_asm); (case wN => k_asm); (case wh1 => k_mem); (case wh2 => k_mem); (case wU => walk_at "upd"))
    | (with_reducible refine' sw_left ?wF ?wX ?wN ?wh1 ?wh2 ?wU ?_; (case wF => k_asm); (case wX => k_asm); (case wN => k_asm); (case wh1 => k_mem); (case wh2 => k_mem); (case wU => walk_at "upd"))
    | (with_reducible refine' sw_top ?wF ?wX ?wN ?wh1 ?wh2 ?wU ?_; (case wF => k_asm); (case wX => k_asm); (case wN => k_asm); (case wh1 => k_mem); (case wh2 => k_mem); (case wU => walk_at "upd"))
    | (with_reducible refine' sw_par ?wF ?wX ?wN ?wh1 ?wh2 ?wU ?_; (case wF => k_asm); (case wX => k_asm); (case wN => k_asm); (case wh1 => k_mem); (case wh2 => k_mem); (case wU => walk_at "upd"))); k_whole; intro _ _ _; (try k_sweep))
  trivial

theorem words_26 : True := by
  k_with "call builtin:list.index" => (k_dflt (refine' kf_index ?wN ?wm ?wi ?we ?wc ?wz ?_; (case wN => k_asm); (case wm => k_mem); (case wi => exact kids_ints _); (case we => exact kids_at (by assumption)); (case wc => exact rfl); (case wz => exact kids_size (by (first | assumption | (simp only [List.length_append, List.length_cons, List.length_reverse, List.length_map, List.length_nil] at *; omega))))))
  k_with "subscriptTail Name Slice ref ref" => ((with_reducible show wpAny _ _ (subscriptTail _ (PySem.Expr.Slice _ _ none _) (Value.ref _) (Value.ref _)) _ _ _); k_dflt (refine' kms_slice_lit ?wF ?wN ?wl ?wp ?wq ?we ?_ ?ws ?wt ?wz; (case wF => k_asm); (case wN => k_asm); (case wl => kmk_list); (case wp => kmk_part); (case wq => kmk_part); (case we => first | exact pick_from | exact pick_to); (case ws => with_unfolding_all rfl); (case wt => kmk_pure); (case wz => exact kids_size' (by (first | assumption | (simp only [List.length_append, List.length_cons, List.length_reverse, List.length_map, List.length_nil] at *; omega))))); intro _ _ _ _ wl1; (try k_lt wl1); (try dsimp only); (try k_sweep); (revert wl1; intro _))
  k_with "subscriptTail Subscript" => ((with_reducible show wpAny _ _ (subscriptTail _ (PySem.Expr.Slice _ _ _ _) _ _) _ _ _); k_dflt (refine kba_turn (value' := PySem.Expr.Name (PySem.Str.ofString "_") ⟨0, 0, 0, 0⟩) (fun _ => rfl) ?_))
  k_with "binaryOp Add ref ref" => (k_dflt (refine' kmk_add_lit ?wF ?wN ?wa ?wb ?we ?_ ?wz; (case wF => k_asm); (case wN => k_asm); (case wa => kmk_list); (case wb => kmk_list); (case we => exact rfl); (case wz => (simp only [List.length_append, List.length_cons, List.length_reverse, List.length_map, List.length_nil] at *; refine Nat.le_trans (m := 20) ?_ (by decide); omega))); intro _ _ _ _ wl1; (try k_lt wl1); (try dsimp only); (try k_sweep); (revert wl1; intro _))
  k_with "eval ListComp" => (k_dflt (refine LCg.ListComp_U (F₀ := by k_asm) (by with_unfolding_all rfl) (by decide) (by rfl) (by decide) (by rfl) ?_))
  k_with "CompSrc" => (k_dflt (refine LCg.CompSrc.ledger (by rfl) (by k_asm) (by k_asm) (by k_mem) (by first | exact Nat.le_of_ble_eq_true rfl | (simp only [List.size_toArray, List.length_append, List.length_cons, List.length_reverse, List.length_map, List.length_nil] at *; refine Nat.le_trans (m := 20) ?_ (by decide); omega)) ?_); intro _)
  k_with "call builtin:sum" => ((with_reducible show wpAny _ _ (call (Value.builtin "sum") [Value.ref _]) _ _ _); k_dflt (refine' sumK ?wk0 ?wk1 ?wk2 ?wk3 ?wk4 ?_; (case wk0 => with_unfolding_all rfl); (case wk1 => k_asm); (case wk2 => k_asm); (case wk3 => kmk_list); (case wk4 => assumption); k_whole); intro _ _ _ _ _)
  k_with "k_mem" => first | with_reducible assumption | with_reducible exact List.mem_cons_self | (with_reducible refine List.mem_cons_of_mem _ ?_; k_mem) | exact MemF.mem (by assumption) | exact SubF.mem (by assumption) (by assumption) | assumption
  k_with "upd" => first | exact UpdF.upd (by assumption) | with_reducible assumption | exact Upd.head (by walk_at "off") | exact Upd.tail (by first | with_reducible assumption | exact ne_cell2 (by assumption) (by assumption) | exact ne_cell1 (by assumption) (by assumption) | exact ne_cell3 (by assumption) (by assumption) | exact ne_all (by walk_at "alllt") (by first | assumption | k_mem) | k_ne) (by walk_at "upd") | k_upd
  k_with "off" => first | with_reducible assumption | exact OffF.off (by assumption) | exact List.forall_mem_nil _ | exact List.forall_mem_cons.mpr ⟨by first | with_reducible assumption | exact ne_cell2 (by assumption) (by assumption) | exact ne_cell1 (by assumption) (by assumption) | exact ne_cell3 (by assumption) (by assumption) | exact ne_all (by walk_at "alllt") (by first | assumption | k_mem) | k_ne, by walk_at "off"⟩ | exact fun p hp => Nat.ne_of_lt (ktn_ltOf (by walk_at "alllt") p hp) | k_all
  k_with "tin" => first | with_reducible assumption | exact TreIn.subF (by assumption) (by assumption) | (with_reducible refine TreIn.cons ?_; walk_at "tin") | (with_reducible refine WinIn.cons ?_; walk_at "tin") | (with_reducible refine LeafIn.cons ?_; walk_at "tin") | (with_reducible refine RootIn.cons ?_; walk_at "tin") | exact St.cons (by walk_at "tin")
  k_with "updF" => first | exact PySem.W.UpdF.head (by walk_at "off") | exact PySem.W.UpdF.tail (by first | with_reducible assumption | exact ne_all (by walk_at "alllt") (by first | assumption | k_mem) | k_ne) (by walk_at "updF")
  k_with "storeName" => (k_dflt (refine' storeX_C ?wF ?wN ?wc ?wU ?wd ?_ ?whk ?whx; (case whx => exact rfl); (case whk => exact rfl); (case wF => k_asm); (case wN => k_asm); (case wc => exact rfl); (case wU => walk_at "updF"); (case wd => with_reducible assumption); k_whole); intro _ _ _ _ _; (try k_sweep))
  k_with "call ref" => ((with_reducible show wpAny _ _ (call (Value.ref 196) _) _ _ _); k_dflt (refine' leaves_c ?wB ?wF ?wX ?wN ?wT ?whk ?whd ?whu ?wS ?_; (case wB => k_asm); (case wF => k_asm); (case wX => k_asm); (case wN => k_asm); (case wT => k_asm); (case whk => first | exact rfl | assumption); (case whd => ktr_room); (case whu => ktr_units); (case wS => walk_at "tin"); k_whole); intro _ _ _ _ _ _ wl1; (try k_lt wl1); (try k_sweep); (revert wl1; intro _))
  trivial


theorem led_mono {P : Params} {R : Win} {kids : List Kid} {x : Addr × Obj} {bs : List (Addr × Obj)} : ∀ q ∈ led P R kids bs, q ∈ led P R kids (x :: bs) := fun q hq => by
  simp only [led, List.mem_cons, List.mem_append] at hq ⊢
  rcases hq with h | h | h
  · exact .inl h
  · exact .inr (.inl h)
  · exact .inr (.inr (.inr h))
theorem led_out {P : Params} {R : Win} {kids : List Kid} {x : Addr × Obj} {bs : List (Addr × Obj)} : ∀ q ∈ led P R kids (x :: bs), q ∈ x :: led P R kids bs := fun q hq => by
  simp only [led, List.mem_cons, List.mem_append] at hq ⊢
  rcases hq with h | h | h | h
  · exact .inr (.inl h)
  · exact .inr (.inr (.inl h))
  · exact .inl h
  · exact .inr (.inr (.inr h))
theorem LapS.add {w : World} {L I : Addr} {it : Obj} {ax le : Int} {mN : Nat} {dk ce : Addr} {cv : List Value} {n1 : Nat} {V : Tre} {bs : List (Addr × Obj)} {oa ol ot : Obj} {ta tl : Tok} {R : Win} {kids : List Kid} {rl : Addr} (h : LapS w L ax le mN dk ce cv n1 V bs oa ol ot ta tl R kids rl) (h1 : ∀ q ∈ led w.params R kids bs, q.1 ≠ I) (h2 : I ≠ dk) (h3 : I ≠ L + 1 + 1 + 1) :
    LapS w L ax le mN dk ce cv n1 V ((I, it) :: bs) oa ol ot ta tl R kids rl :=
  { h with
    ba := h.ba.push (Ne.symm (h1 _ led_root)) fun p hp => Ne.symm (h1 _ (led_kid hp))
    off := fun q hq => (List.mem_cons.mp (led_out q hq)).elim (fun e => by rw [e]; exact ⟨h2, h3⟩) (h.off q)
    ce := .tail _ h.ce
    ca := .tail _ h.ca
    cl := .tail _ h.cl
    ct := .tail _ h.ct }
theorem LapS.pop {w : World} {L I : Addr} {it : Obj} {ax le : Int} {mN : Nat} {dk ce : Addr} {cv : List Value} {n1 : Nat} {V : Tre} {bs : List (Addr × Obj)} {oa ol ot : Obj} {ta tl : Tok} {R R0 : Win} {kids kids0 : List Kid} {rl rl0 : Addr} (hc : it.cls = .type "range_iterator") (h0 : LapS w L ax le mN dk ce cv n1 V bs oa ol ot ta tl R0 kids0 rl0) (h : LapS w L ax le mN dk ce cv n1 V ((I, it) :: bs) oa ol ot ta tl R kids rl) :
    LapS w L ax le mN dk ce cv n1 V bs oa ol ot ta tl R kids rl :=
  { h with
    ba := h.ba.pop hc (wo_cls h.ba.tre.is)
    off := fun q hq => h.off q (led_mono q hq)
    ce := h0.ce
    ca := h0.ca
    cl := h0.cl
    ct := h0.ct }
set_option maxRecDepth 100000 in
set_option maxHeartbeats 8000000 in
theorem rest2_c {w : World} {p : Program} {loose : List Str} {mean : ExcName → Option Value} {mg mb : Str → Option Value} {g : Heap} {L f : Addr} {cdv : Value} {m : Str → Option Value} {s : Shared} {Q : Flow → Shared → Prop} {E : Value → Shared → Prop} {ax le : Int} {mN nn : Nat} {dk ce rl : Addr} {cv rv : List Value} {ns rs : List Int} {oa ol orr ot : Obj} {ta tl tm tkk : Tok} {k : Int} {n n1 : Nat} {V : Tre} {R : Win} {kids : List Kid} {bs : List (Addr × Obj)}
    (B : Below callerA g [] g) (F : Fr g L s.heap m) (X : (Mine.hd.heap_39 w.params).In g) (T : Top p loose mean mg mb g)
    (N : News g L s.heap (led w.params R kids (spb w.params V R kids nn bs))) (S : Sp w ax bs V R kids) (hkl : kids.length = mN) (hle : (if ax = 0 then V.lw else V.lh) = le) (hbs : ∀ q ∈ [(dk, listOf #[.ref ce, .int k tkk] 0), (L + 1 + 1 + 1, orr), (rl, listOf rv.toArray n), (ce, listOf cv.toArray n1), (L + 1 + 1, ol), (L + 1, oa), (L + 1 + 1 + 1 + 1, ot)], q ∈ bs) (hE : PassesOwn (model PySem.Challenge.rw_np0057_01.row.prog w) (callerA.deeper (lawE L f cdv)) (lawE L f cdv) E) (hm2 : 2 ≤ mN) (hm5 : mN ≤ 5)  (hrv : IntsAre rv rs) (hrl : rs.length = mN) (hge : ∀ r ∈ rs, le ≤ r) (hcv : IntsAre cv ns) (hns : ns.length ≤ 63) (hk0 : 0 ≤ k) (hk9 : k ≤ 100)
    (m1 : m (Str.ofString "many") = some (.int (mN : Int) tm)) (m2 : m (Str.ofString "deck") = some (.ref dk)) 
    (da : oa.data = .cell (some (.int ax ta))) (dl : ol.data = .cell (some (.int le tl))) (dr : orr.data = .cell (some (.ref rl))) (dt : ot.data = .cell (some (.ref V.x)))
    (n1' : rl ≠ dk) (n2 : dk ≠ L + 1 + 1 + 1) (n3 : rl ≠ L + 1 + 1 + 1) (n4 : ce ≠ dk) (nc : ce ≠ L + 1 + 1 + 1) (nd : L + 1 + 1 + 1 + 1 ≠ dk) (ne : L + 1 + 1 + 1 + 1 ≠ rl) (nf : L + 1 + 1 + 1 + 1 ≠ ce) (ng : ce ≠ rl)
    (n7 : L + 1 + 1 ≠ dk) (n8 : L + 1 ≠ dk) (n10 : L + 1 + 1 ≠ rl) (n11 : L + 1 ≠ rl)
    (hret : ∀ (h9 : Heap) (tk9 : Nat) (m' : Str → Option Value) (nw : List (Addr × Obj)), Fr g L h9 m' → News g L h9 nw → Q (.ret (.bool true)) { s with heap := h9, toks := tk9 }) :
    wpAny (model PySem.Challenge.rw_np0057_01.row.prog w) (callerA.deeper (lawE L f cdv)) (execs (lawB.drop 7) (lawE L f cdv)) Q E s := by
  unfold lawE
  conv in (occs := *) lawS => all_goals whnf
  conv in lawB.drop 7 => whnf
  have hsm : Sm mN := ⟨hm2, hm5⟩
  have hm12 : mN ≤ 12 := by omega
  have hkl9 : kids.length ≤ 9 := by omega
  clear hm5
  have Bs := S.ba (n := nn) (by omega)
  have St0 := Bs.st
  obtain ⟨B0, hB0⟩ : ∃ B0, B0 = spb w.params V R kids nn bs := ⟨_, rfl⟩
  rw [← hB0] at N Bs St0
  have tB : ∀ q ∈ bs, q ∈ B0 := fun q hq => by rw [hB0]; exact .tail _ (.tail _ (.tail _ hq))
  have c1 := hbs (dk, listOf #[.ref ce, .int k tkk] 0) (by simp)
  have c2 := hbs (L + 1 + 1 + 1, orr) (by simp)
  have c3 := hbs (rl, listOf rv.toArray n) (by simp)
  have c4 := hbs (ce, listOf cv.toArray n1) (by simp)
  have c5 := hbs (L + 1 + 1, ol) (by simp)
  have c6 := hbs (L + 1, oa) (by simp)
  have c7 := hbs (L + 1 + 1 + 1 + 1, ot) (by simp)
  obtain ⟨LD, hLD⟩ : ∃ LD, LD = led w.params R kids B0 := ⟨_, rfl⟩
  have N1 : News g L s.heap LD := by rw [hLD]; exact N
  clear N
  rw [← hLD] at St0
  have tL : ∀ q ∈ B0, q ∈ LD := fun q hq => by rw [hLD]; exact led_base hq
  have e2 := tL _ (tB _ c2)
  have e3 := tL _ (tB _ c3)
  have e5 := tL _ (tB _ c5)
  have e6 := tL _ (tB _ c6)
  have e7 := tL _ (tB _ c7)
  repeat' (first | (k_unfold; (try dsimp only)) | ((fail_if_success (with_reducible show wpAny _ _ (exec (Stmt.For _ _ _ _ _) _) _ _ _)); first | walk1 | (dsimp only; walk1)))
  rename Fr _ _ _ _ => lF'
  refine For_turns lF' ?_ (by intro _; rfl) hE
  repeat' (first | (k_unfold; (try dsimp only)) | ((fail_if_success (with_reducible show wpAny _ _ (call (Value.type "zip") _) _ _ _)); first | walk1 | (dsimp only; walk1)))
  rename Fr _ _ _ _ => F2
  rename News _ _ _ _ => N2
  rename_i lf nf _ _ _
  have lf9 : (lf, listOf (kids.map fv).toArray nf) ∈ (lf, listOf (kids.map fv).toArray nf) :: LD := .head _
  refine ktu_zip (by rfl) F2 N2 (.head _) rfl rfl (.tail _ e3) rfl rfl ?_
  intro I lI
  rw [hLD] at lI
  clear N2 F2 lf9 St0
  have hkeyI : ∀ kc, Kin kids kc → ∀ p ∈ (lf, listOf (kids.map fv).toArray nf) :: led w.params R kc B0, p.1 < I := fun kc hkin p hp => by
    rcases List.mem_cons.mp hp with e | hp
    · rw [e]; exact lI _ (.head _)
    · obtain ⟨q, hq, e⟩ := key_mem (led_keys .refl hkin) hp
      rw [← e]
      exact lI _ (.tail _ hq)
  have hlfd : ∀ kc, Kin kids kc → ∀ p ∈ kc, lf ≠ p.1.d := fun kc hkin p hp => by
    obtain ⟨q, hq, e⟩ := key_mem (led_keys (P := w.params) (bs := B0) (R := R) .refl hkin) (led_kid (P := w.params) (base := B0) (R := R) hp)
    have e' : q.1 = p.1.d := e
    rw [← e']
    exact Nat.ne_of_gt (by rename (∀ p ∈ LD, p.1 < lf) => hh; exact hh _ (by rw [hLD]; exact hq))
  refine zip_ind (fun items m' nw' => ∃ (a b : List Kid) (rv2 : List Value) (rs1 rs2 : List Int), items = zipItems (b.map fv) rv2 ∧ IntsAre rv2 rs2 ∧ a.map (·.1.size ax) = rs1 ∧ rs1 ++ rs2 = rs ∧ b.length = rs2.length ∧ Kin kids (a ++ b) ∧ nw' = (lf, listOf (kids.map fv).toArray nf) :: led w.params R (a ++ b) B0 ∧ m' (Str.ofString "many") = some (.int (mN : Int) tm) ∧ m' (Str.ofString "deck") = some (.ref dk)) ?h0 ?turn ?pr ?done
  case h0 => exact ⟨[], kids, rv, [], rs, rfl, hrv, rfl, rfl, by rw [hkl, hrl], .refl, by rw [hLD]; rfl, m1, m2⟩
  case pr =>
    rintro a r m' nw' ⟨a9, b9, rv2, rs1, rs2, hz, _⟩
    cases b9 with
    | nil => cases rv2 <;> cases hz
    | cons p b9 =>
      cases rv2 with
      | nil => cases hz
      | cons z rv2 => exact ⟨_, _, (List.cons.inj hz).1⟩
  case turn =>
    intro fZ y r m' nw' hX9 T9 t o1 o2 o3 o4 o5 h tk8 hT F4 N4
    refine ex5 hX9 ?_
    clear hX9
    intro a9 b9 rv2 rs1 rs2 hX9
    refine an9 hX9 ?_
    clear hX9
    intro hz hi2 hs1 hs hbl hkin eX9 q1 q2
    subst eX9
    cases b9 with
    | nil => cases rv2 <;> cases hz
    | cons p b9 =>
      obtain ⟨W, t0⟩ := p
      cases hi2 with
      | nil => cases hz
      | cons z tz hi2 =>
        rename_i rv2 rs2
        obtain ⟨hz1, hz2⟩ := List.cons.inj hz
        injection hz1 with hz3 hz4
        subst hz2 hz3 hz4
        have Bk := Bs.move .refl hkin
        refine ex1 Bk.fK ?_
        intro nK hX9
        refine an5 hX9 ?_
        clear hX9
        intro ksub kmem kupd kled kR
        have hWI : W.d < I := hkeyI _ hkin _ (.tail _ (led_kid (p := (W, t0)) (by simp)))
        have N5 : News g L h ([(I + 4, o1), (I + 2, o2), (I + 3, o3), (I, o4), (I + 1, o5), (lf, listOf (kids.map fv).toArray nf)] ++ nK W) := by
          rw [kled W rfl]; exact N4
        have F5 : Fr g L h m' := F4
        clear N4 F4
        obtain ⟨k1, k2, k3, k4, k5, k6⟩ := Bk.kx (W, t0) (by simp)
        obtain ⟨NW, hNW⟩ : ∃ NW, NW = [(I + 4, o1), (I + 2, o2), (I + 3, o3), (I, o4), (I + 1, o5), (lf, listOf (kids.map fv).toArray nf)] ++ nK W := ⟨_, rfl⟩
        rw [← hNW] at N5
        have tN : ∀ q ∈ B0, q ∈ NW := fun q hq => by rw [hNW]; exact List.mem_append_right _ (ksub.mem hq)
        have ca := tN _ (tB _ c6)
        have ct := tN _ (tB _ c7)
        repeat' (first | (k_unfold; (try dsimp only)) | ((fail_if_success (with_reducible show wpAny _ _ (call (Value.ref 225) _) _ _ _)); first | walk1 | (dsimp only; walk1)))
        rename Fr _ _ _ _ => F6
        rename News _ _ _ _ => N6
        (try dsimp only)
        have hTr : TreIn w NW V := ⟨tN _ Bs.tre.x, tN _ Bs.tre.d, tN _ Bs.tre.wi, Bs.tre.is, Bs.tre.lo⟩
        have hWi : WinIn w.params NW W := ⟨tN _ k1, by rw [hNW]; exact List.mem_append_right _ kmem.mem⟩
        have hU : Upd W.d (dictOf (W.es w.params) 16) (dictOf ((W.setSize ax z tz).es w.params) 16) NW ([(I + 4, o1), (I + 2, o2), (I + 3, o3), (I, o4), (I + 1, o5), (lf, listOf (kids.map fv).toArray nf)] ++ nK (W.setSize ax z tz)) := by
          rw [hNW]
          refine upd_pre kupd.upd ?_
          refine List.forall_mem_cons.mpr ⟨Nat.ne_of_gt (Nat.lt_add_right _ hWI), List.forall_mem_cons.mpr ⟨Nat.ne_of_gt (Nat.lt_add_right _ hWI), List.forall_mem_cons.mpr ⟨Nat.ne_of_gt (Nat.lt_add_right _ hWI), List.forall_mem_cons.mpr ⟨Nat.ne_of_gt hWI, List.forall_mem_cons.mpr ⟨Nat.ne_of_gt (Nat.lt_add_right _ hWI), List.forall_mem_cons.mpr ⟨hlfd _ hkin (W, t0) (by simp), List.forall_mem_nil _⟩⟩⟩⟩⟩⟩
        refine' set_tree_size_c (V := V) (W := W) ?B ?F ?X ?N ?T ?hk ?hd ?hu hTr k2 hWi k3 hU ?_
        (case B => exact B)
        (case F => exact F6)
        (case X => exact X)
        (case N => exact N6)
        (case T => k_asm)
        (case hk => exact rfl)
        (case hd => ktr_room)
        (case hu => ktr_units)
        k_whole
        intro h10 tk10 F10 N10
        rw [kled (W.setSize ax z tz) Same.setSize.d] at N10
        have hkin2 : Kin kids ((a9 ++ [(W.setSize ax z tz, t0)]) ++ b9) := by
          rw [List.append_assoc]
          exact hkin.trans (Kin.one Same.setSize)
        have hke := hkeyI _ hkin2
        repeat' (first | (k_unfold; (try dsimp only)) | ((fail_if_success (with_reducible show wpAny _ _ (exec (Stmt.While _ _ _ _) _) _ _ _)); (fail_if_success (with_reducible show WhlRest _ _ _ _ _ _ _ _ _ _ _)); (fail_if_success (with_reducible show WStep _ _ _ _ _ _)); first | walk1 | (dsimp only; walk1)))
        rename Fr _ _ _ _ => F11
        rename News _ _ _ _ => N11
        refine ⟨_, _, _, (lf, listOf (kids.map fv).toArray nf) :: led w.params R ((a9 ++ [(W.setSize ax z tz, t0)]) ++ b9) B0, rfl, F11, ?_, fun p hp => ?_, ⟨.head _, .tail _ (led_base (tB _ c3)), trivial⟩, ⟨a9 ++ [(W.setSize ax z tz, t0)], b9, rv2, rs1 ++ [z], rs2, rfl, hi2, by rw [List.map_append, hs1, List.map_cons, List.map_nil, size_set], by rw [List.append_assoc]; exact hs, by simpa using hbl, hkin2, rfl, q1, q2⟩⟩
        · refine cb_drop N11 fun p hp => ?_
          rw [List.append_assoc] at hp
          exact hp
        · have hlt := hke p hp
          refine List.forall_mem_cons.mpr ⟨Nat.ne_of_lt (Nat.lt_add_right _ hlt), List.forall_mem_cons.mpr ⟨Nat.ne_of_lt (Nat.lt_add_right _ hlt), List.forall_mem_cons.mpr ⟨Nat.ne_of_lt (Nat.lt_add_right _ hlt), List.forall_mem_cons.mpr ⟨Nat.ne_of_lt hlt, List.forall_mem_cons.mpr ⟨Nat.ne_of_lt (Nat.lt_add_right _ hlt), List.forall_mem_nil _⟩⟩⟩⟩⟩
  case done =>
    intro m' nw' h tk8 hX9 F4 N4
    refine ex5 hX9 ?_
    clear hX9
    intro a9 b9 rv2 rs1 rs2 hX9
    refine an9 hX9 ?_
    clear hX9
    intro hz hi2 hs1 hs hbl hkin eX9 q1 q2
    subst eX9
    have hb0 : b9 = [] := by
      cases b9 with
      | nil => rfl
      | cons p b9 =>
        cases hi2 with
        | nil => simp at hbl
        | cons z tz hi2 => cases hz
    subst hb0
    have hr0 : rs2 = [] := List.length_eq_zero_iff.mp hbl.symm
    subst hr0
    rw [List.append_nil] at hs hkin N4
    subst hs
    have N5 : News g L h (led w.params R a9 B0) := cb_drop N4 (fun p hp => .tail _ hp)
    have F5 : Fr g L h m' := F4
    clear N4 F4
    have Ba9 := Bs.move .refl hkin
    obtain ⟨LA, hLA⟩ : ∃ LA, LA = led w.params R a9 B0 := ⟨_, rfl⟩
    rw [← hLA] at N5
    have ct := led_base (P := w.params) (R := R) (kids := a9) (tB _ c7)
    rw [← hLA] at ct
    repeat' (first | (k_unfold; (try dsimp only)) | ((fail_if_success (with_reducible show wpAny _ _ (call (Value.ref 232) _) _ _ _)); first | walk1 | (dsimp only; walk1)))
    rename Fr _ _ _ _ => F6
    rename News _ _ _ _ => N6
    (try dsimp only)
    refine' set_places_c (V := V) (R := R) (kids := a9) ?B ?F ?X ?N ?T ?hk ?hd ?hu Ba9 hLA S.rax ?_
    (case B => exact B)
    (case F => exact F6)
    (case X => exact X)
    (case N => exact N6)
    (case T => k_asm)
    (case hk => exact rfl)
    (case hd => ktr_room)
    (case hu => ktr_units)
    k_whole
    intro h10 tk10 R3 kids3 F10 N10 hR3 hk3 hs3 hp3
    have S3 := S.move hR3 (hkin.trans hk3)
    have hsz3 : kids3.map (·.1.size ax) = rs1 := (hs3 ax).trans hs1
    rw [hB0] at N10
    have N11 : News g L h10 (led w.params R3 kids3 (spb w.params V R3 kids3 nn bs)) := by
      have e : spb w.params V R3 kids3 nn bs = spb w.params V R kids nn bs := by
        unfold spb
        rw [hR3.chi, (hkin.trans hk3).kvs]
      rw [e]
      exact N10
    obtain ⟨bs2, Z, hin2⟩ := lap_of (ax := ax) (le := le) (mN := mN) S3 N11 (by rw [(hkin.trans hk3).length]; exact hkl9) c1 c2 dr c3 c4 c6 da c5 dl c7 dt n2 n1' n3 n4 nc n8 n7 nd hle hp3 (by rw [hsz3]; exact hge) (by rw [(hkin.trans hk3).length]; exact hkl) hsm.h2
    have N12 : News g L h10 (lapL w.params L dk ce k tkk 0 orr rl rv n R3 kids3 bs2) := cb_drop N11 hin2
    clear N10 N11 F6 N6 ct
    obtain ⟨LD3, hLD3⟩ : ∃ LD3, LD3 = led w.params R3 kids3 bs2 := ⟨_, rfl⟩
    have N13 : News g L h10 ((dk, listOf #[.ref ce, .int k tkk] 0) :: (L + 1 + 1 + 1, orr) :: (rl, listOf rv.toArray n) :: LD3) := by rw [hLD3]; exact N12
    clear N12
    have hoff3 : ∀ q ∈ LD3, q.1 ≠ dk := by rw [hLD3]; exact fun q hq => (Z.off q hq).1
    have hce3 : (ce, listOf cv.toArray n1) ∈ LD3 := by rw [hLD3]; exact led_base Z.ce
    have n2' := Ne.symm n2
    have hi3 : IntsAre rv (kids3.map (·.1.size ax)) := by rw [hsz3]; exact hrv
    repeat' (first | (k_unfold; (try dsimp only)) | ((fail_if_success (with_reducible show wpAny _ _ (exec (Stmt.For _ _ _ _ _) _) _ _ _)); first | walk1 | (dsimp only; walk1)))
    rename Fr _ _ _ _ => lF'
    with_unfolding_all refine' For_invVF lF' ?k1 ?k2 ?_ (hE := hE)
    (case k1 => exact rfl)
    (case k2 => exact rfl)
    repeat' (first | (k_unfold; (try dsimp only)) | ((fail_if_success (with_reducible show wpAny _ _ (call (Value.ref 300) _) _ _ _)); first | walk1 | (dsimp only; walk1)))
    refine' draw_c ?B ?F ?X ?N ?T ?hk ?hd ?hu ?hd1 ?hd2 ?hi ?hlen ?hk0 ?hk9 ?hmn ?hmx ?hne ?U ?_
    (case B => k_asm)
    (case F => k_asm)
    (case X => k_asm)
    (case N => k_asm)
    (case T => k_asm)
    (case hk => first | exact rfl | assumption)
    (case hd => ktr_room)
    (case hu => ktr_units)
    (case hd1 => k_mem)
    (case hd2 => k_mem)
    (case hi => with_reducible assumption)
    (case hlen => assumption)
    (case hk0 => omega)
    (case hk9 => omega)
    (case hmn => omega)
    (case hmx => omega)
    (case hne => with_reducible assumption)
    (case U => exact fun _ => Upd.head (List.forall_mem_cons.mpr ⟨n2', List.forall_mem_cons.mpr ⟨n1', hoff3⟩⟩))
    k_whole
    intro rq trq urq hrq krq rq0 rq1 Frq Nrq
    repeat' (first | (k_unfold; (try dsimp only)) | ((fail_if_success (with_reducible show wpAny _ _ (call (Value.type "range") _) _ _ _)); first | walk1 | (dsimp only; walk1)))
    obtain ⟨nL, hnL⟩ : ∃ nL : Nat, 1 + rq = (nL : Int) := ⟨(1 + rq).toNat, by omega⟩
    have hnL12 : nL ≤ 12 := by omega
    (try dsimp only)
    rw [hnL]
    clear rq0 rq1 hnL
    repeat' (first | (k_unfold; (try dsimp only)) | ((fail_if_success (with_reducible show wpAny _ _ (pyIter (Value.ref _)) _ _ _)); first | walk1 | (dsimp only; walk1)))
    rename Fr _ _ _ _ => F14
    rename News _ _ _ _ => N14
    rename IsRange _ _ _ _ _ _ _ _ => rgX
    refine iter_rangeUnr (n := nL) (by rfl) rgX (zr_small (by omega)) zr_size F14 N14 ?_
    intro I2 lI2
    clear rgX F14 N14
    have hbsI : ∀ q ∈ bs2, q.1 ≠ I2 := fun q hq => Nat.ne_of_lt (lI2 q (.tail _ (.tail _ (.tail _ (by rw [hLD3]; exact led_base hq)))))
    refine rng_ind2 (fun i m' nw' => ∃ (R4 : Win) (kids4 : List Kid) (rl4 : Addr) (rv4 : List Value) (n4 : Nat) (orr4 : Obj) (k4 : Int) (tk4 : Tok), LapS w L ax le mN dk ce cv n1 V bs2 oa ol ot ta tl R4 kids4 rl4 ∧ orr4.data = .cell (some (.ref rl4)) ∧ IntsAre rv4 (kids4.map (·.1.size ax)) ∧ k ≤ k4 ∧ k4 ≤ k + 1 + 4 * (i : Int) ∧ nw' = lapL w.params L dk ce k4 tk4 0 orr4 rl4 rv4 n4 R4 kids4 bs2 ∧ (∀ p ∈ nw', p.1 ≠ I2) ∧ m' (Str.ofString "many") = some (.int (mN : Int) tm) ∧ m' (Str.ofString "deck") = some (.ref dk)) ?h0 ?turn ?done
    case h0 => exact ⟨R3, kids3, rl, rv, n, orr, k + 1, urq, Z, dr, hi3, by omega, by omega, by rw [hLD3], fun p hp => Nat.ne_of_lt (lI2 p hp), q1, q2⟩
    case turn =>
      intro i m4 nw4 hi hX9 t it h15 tk15 hitc F15 N15
      refine ex8 hX9 ?_
      clear hX9
      intro R4 kids4 rl4 rv4 n4' orr4 k4 tk4 hX9
      refine an9 hX9 ?_
      clear hX9
      intro Z4 ho4 hi4 hk4 hk4' eX9 hnI p1 p2
      subst eX9
      have Z5 := Z4.add (I := I2) (it := it) (fun q hq => hnI q (.tail _ (.tail _ (.tail _ hq)))) (Ne.symm (hnI _ (.head _))) (Ne.symm (hnI _ (.tail _ (.head _))))
      have N16 : News g L h15 (lapL w.params L dk ce k4 tk4 0 orr4 rl4 rv4 n4' R4 kids4 ((I2, it) :: bs2)) := cb_drop N15 (List.forall_mem_cons.mpr ⟨.tail _ (.head _), List.forall_mem_cons.mpr ⟨.tail _ (.tail _ (.head _)), List.forall_mem_cons.mpr ⟨.tail _ (.tail _ (.tail _ (.head _))), fun p hp => (List.mem_cons.mp (led_out p hp)).elim (fun e => by rw [e]; exact .head _) (fun z => .tail _ (.tail _ (.tail _ (.tail _ z))))⟩⟩⟩)
      have F16 : Fr g L h15 (fun y => if y = Str.ofString "lap" then some (.int (0 + (i : Int)) t) else m4 y) := F15
      clear N15 F15
      refine' lap_c (ns := ns) (k := k4) (tkk := tk4) (n0 := 0) (orr := orr4) (rl := rl4) (rv := rv4) (n := n4') (R := R4) (kids := kids4) (ce := ce) (dk := dk) (bs := (I2, it) :: bs2) ?B ?F ?X ?T ?N Z5 ho4 hi4 ?e1 ?e2 hcv hns (by omega) (by omega) ?_
      (case B => exact B)
      (case F => exact F16)
      (case X => exact X)
      (case T => exact T)
      (case N => exact N16)
      (case e1 => exact p1)
      (case e2 => exact p2)
      k_whole
      intro R5 kids5 rl5 rv5 n5 orr5 k5 tk5 m5 h17 tk17 u1 u2 F17 v1 v2 N17 Z6 o6 i6
      have Z7 := LapS.pop hitc Z4 Z6
      have hIm : (I2, it) ∈ lapL w.params L dk ce k5 tk5 0 orr5 rl5 rv5 n5 R5 kids5 ((I2, it) :: bs2) := .tail _ (.tail _ (.tail _ (led_base (.head _))))
      have hI6 := Z6.off (I2, it) (led_base (.head _))
      have hoff : ∀ p ∈ lapL w.params L dk ce k5 tk5 0 orr5 rl5 rv5 n5 R5 kids5 bs2, p.1 ≠ I2 := by
        refine List.forall_mem_cons.mpr ⟨Ne.symm hI6.1, List.forall_mem_cons.mpr ⟨Ne.symm hI6.2, List.forall_mem_cons.mpr ⟨key_ne N17 (.tail _ (.tail _ (.head _))) hIm (it_ne hitc cls_list), fun p hp => ?_⟩⟩⟩
        unfold led at hp
        rcases List.mem_cons.mp hp with e | hp
        · rw [e]; exact Ne.symm (Z6.ba.rd (I2, it) (.head _))
        · rcases List.mem_append.mp hp with hp | hp
          · obtain ⟨q, hq, e⟩ := List.mem_map.mp hp
            rw [← e]; exact Ne.symm (Z6.ba.kd q hq (I2, it) (.head _))
          · exact hbsI p hp
      exact RStep.next _ F17 N17 (List.forall_mem_cons.mpr ⟨hIm, List.forall_mem_cons.mpr ⟨.head _, List.forall_mem_cons.mpr ⟨.tail _ (.head _), List.forall_mem_cons.mpr ⟨.tail _ (.tail _ (.head _)), fun p hp => .tail _ (.tail _ (.tail _ (led_mono p hp)))⟩⟩⟩⟩) hoff
        ⟨R5, kids5, rl5, rv5, n5, orr5, k5, tk5, Z7, o6, i6, by omega, by omega, rfl, hoff, v1, v2⟩
    case done =>
      intro m4 nw4 h15 tk15 hX9 F15 N15
      refine ex8 hX9 ?_
      clear hX9
      intro R4 kids4 rl4 rv4 n4' orr4 k4 tk4 hX9
      refine an9 hX9 ?_
      clear hX9
      intro Z4 ho4 hi4 hk4 hk4' eX9 hnI p1 p2
      subst eX9
      repeat' (first | (k_unfold; (try dsimp only)) | ((fail_if_success (with_reducible show wpAny _ _ (exec (Stmt.While _ _ _ _) _) _ _ _)); (fail_if_success (with_reducible show WhlRest _ _ _ _ _ _ _ _ _ _ _)); (fail_if_success (with_reducible show WStep _ _ _ _ _ _)); first | walk1 | (dsimp only; walk1)))
      rename Fr _ _ _ _ => F16
      rename News _ _ _ _ => N16
      exact hret _ _ _ _ F16 N16



end PartD24
section PartD23
theorem words_27 : True := by
  k_with "ktr_units" => (have hcL9 := cLine_is; (try simp only [units_make, units_in1, units_deeper, Around.mark_units, units_caller] at *); (try dsimp only [ktrTop] at *); (try simp only [units_make, units_in1, units_deeper] at *); omega)
  trivial


theorem sum_ge {le : Int} : ∀ {rs : List Int}, (∀ r ∈ rs, le ≤ r) → le * rs.length ≤ rs.sum
  | [], _ => by simp
  | r :: q, h => by
    have h1 := h r (.head _)
    have h2 := sum_ge fun x hx => h x (.tail _ hx)
    rw [List.length_cons, List.sum_cons]
    have e : le * ((q.length + 1 : Nat) : Int) = le * (q.length : Int) + le := by
      rw [Int.natCast_add, Int.mul_add]; simp
    omega
theorem pre_first {w : World} {ax : Int} {V : Tre} {W : Win} {t : Tok} {old : List (Addr × Obj)} {k1 k2 : Nat} (is : V.wo.IsDictOf (PySem.intKind PySem.Challenge.rw_np0057_01.row.prog w) V.kvs) (lo : (V.wd == sysModules) = false) (hk : V.kvs = stored [] 1 (.ref W.x)) (hl : V.last = 1) (hroot : V.root = 1) (hnum : W.num = 1) (hso : W.sort = 0) (hp : W.par = 0)
    (sh : W.Sh) (hax : ax = 0 ∨ ax = 1) (hlt : ∀ p ∈ old, p.1 < V.d) (ord : V.d < V.x ∧ V.x < V.wd ∧ V.wd < W.d ∧ W.d < W.x ∧ W.x < W.chi ∧ W.chi < W.ear ∧ W.ear < W.lat) :
    PreS w ax V W t [] ((V.x, instObj 164 V.d) :: (W.x, instObj 93 W.d) :: (W.chi, listOf #[] k1) :: (W.ear, listOf #[] k2) :: old) ((V.d, dictOf (V.es w.params) 7) :: (V.wd, V.wo) :: (W.d, dictOf (W.es w.params) 16) :: (V.x, instObj 164 V.d) :: (W.x, instObj 93 W.d) :: (W.chi, listOf #[] k1) :: (W.ear, listOf #[] k2) :: old) := by
  obtain ⟨o1, o2, o3, o4, o5, o6, _⟩ := ord
  have a1 := Nat.lt_trans o1 o2
  have a2 := Nat.lt_trans a1 o3
  have a3 := Nat.lt_trans o3 o4
  refine .first rfl (.head _) is lo (.tail _ (.head _)) ?_ hp (hroot.trans hnum.symm) hl hnum (by rw [hk]; exact Nat.le_refl _) hso ⟨k1, .tail _ (.tail _ (.head _))⟩ ⟨k2, .tail _ (.tail _ (.tail _ (.head _)))⟩ sh hax (Nat.ne_of_lt a1) (Nat.ne_of_lt a2) (Nat.ne_of_lt o3) ?_
  · rw [hk]
    exact valueAt_stored' hnum
  · have up : ∀ y : Addr, W.d < y → y ≠ V.d ∧ y ≠ V.wd ∧ y ≠ W.d := fun y hy => ⟨Nat.ne_of_gt (Nat.lt_trans a2 hy), Nat.ne_of_gt (Nat.lt_trans o3 hy), Nat.ne_of_gt hy⟩
    refine List.forall_mem_cons.mpr ⟨⟨Nat.ne_of_gt o1, Nat.ne_of_lt o2, Nat.ne_of_lt (Nat.lt_trans o2 o3)⟩, List.forall_mem_cons.mpr ⟨up _ o4, List.forall_mem_cons.mpr ⟨up _ (Nat.lt_trans o4 o5), List.forall_mem_cons.mpr ⟨up _ (Nat.lt_trans (Nat.lt_trans o4 o5) o6), fun p hp => ?_⟩⟩⟩⟩
    have h := hlt p hp
    exact ⟨Nat.ne_of_lt h, Nat.ne_of_lt (Nat.lt_trans h a1), Nat.ne_of_lt (Nat.lt_trans h a2)⟩
theorem PreS.sub {w : World} {ax : Int} {V : Tre} {W : Win} {t : Tok} {ks : List Kid} {bs news : List (Addr × Obj)} (h : PreS w ax V W t ks bs news) : ∀ q ∈ bs, q ∈ news := by
  cases h with
  | first e vx is lo wx hv hp hroot hl hnum hkl hso hc he sh hax d1 d2 d3 off => exact fun q hq => .tail _ (.tail _ (.tail _ hq))
  | next S hl => exact fun q hq => led_base (.tail _ (.tail _ (.tail _ hq)))
set_option maxRecDepth 100000 in
set_option maxHeartbeats 8000000 in
theorem leaves_pre_c {w : World} {p : Program} {loose : List Str} {mean : ExcName → Option Value} {mg mb : Str → Option Value} {dp un : Nat} {gd : Option (List Code)} {cn : Str} {cs : Scope} {a : Addr} {ccd : Value} {cl : List (Str × Addr)} {outer : List Env} {A₀ : Around} {base h₀ : Heap} {L : Addr} {m : Str → Option Value} {news : List (Addr × Obj)} {s : Shared} {Q E : Value → Shared → Prop} {ax : Int} {V : Tre} {W : Win} {t : Tok} {ks : List Kid} {bs : List (Addr × Obj)}
    (B : Below A₀ base outer h₀) (F : Fr h₀ L s.heap m) (X : (Mine.hd.heap_39 w.params).In h₀) (N : News h₀ L s.heap news) (T : Top p loose mean mg mb h₀) (hk : cs.kind = .function) (hd : dp + 30 < recursionLimit) (hu : un + 300 < cLine)
    (hn : PreS w ax V W t ks bs news) (hret : ∀ (l : Addr) (n9 : Nat) (h9 : Heap) (tk9 : Nat), Fr h₀ L h9 m → News h₀ L h9 ((l, listOf ((ks ++ [(W, t)]).map fv).toArray n9) :: news) → (∀ p ∈ news, p.1 < l) → Q (.ref l) { s with heap := h9, toks := tk9 }) :
    wpAny (model PySem.Challenge.rw_np0057_01.row.prog w) (ktrTop dp un gd cn cs L a ccd cl outer) (call (.ref 196) [.ref V.x]) Q E s := by
  have hl := hn.leaf
  have ht := hn.tre
  cases hn with
  | first e vx is lo wx hv hp hroot hl2 hnum hkl hso hc he sh hax d1 d2 d3 off =>
    subst e
    exact leaves_leaf_c B F X N T hk (by omega) (by omega) ht hl hroot (fun l n9 h9 tk9 F9 N9 l9 => hret l n9 h9 tk9 F9 N9 l9)
  | next S hl2 => exact leaves_c B F X N T hk (by omega) (by omega) (S.ba hl2).st hret
set_option maxRecDepth 100000 in
set_option maxHeartbeats 8000000 in
theorem rest_c {w : World} {p : Program} {loose : List Str} {mean : ExcName → Option Value} {mg mb : Str → Option Value} {g : Heap} {L f : Addr} {cdv : Value} {m : Str → Option Value} {s : Shared} {Q : Flow → Shared → Prop} {E : Value → Shared → Prop} {ax le wi he : Int} {mN : Nat} {dk ce rl : Addr} {cv rv : List Value} {ns rs : List Int} {oa ol orr ot : Obj} {ta tl tm tw th tkk : Tok} {k : Int} {n n1 : Nat}
    (B : Below callerA g [] g) (F : Fr g L s.heap m) (X : (Mine.hd.heap_39 w.params).In g) (T : Top p loose mean mg mb g)
    (N : News g L s.heap [(dk, listOf #[.ref ce, .int k tkk] 0), (L + 1 + 1 + 1, orr), (rl, listOf rv.toArray n), (ce, listOf cv.toArray n1), (L + 1 + 1, ol), (L + 1, oa), (L + 1 + 1 + 1 + 1, ot)]) (hE : PassesOwn (model PySem.Challenge.rw_np0057_01.row.prog w) (callerA.deeper (lawE L f cdv)) (lawE L f cdv) E) (hm2 : 2 ≤ mN) (hm5 : mN ≤ 5) (hax : ax = 0 ∧ wi = rs.sum ∧ le = 3 ∨ ax = 1 ∧ he = rs.sum ∧ le = 2) (hrv : IntsAre rv rs) (hrl : rs.length = mN) (hge : ∀ r ∈ rs, le ≤ r) (hcv : IntsAre cv ns) (hns : ns.length ≤ 63) (hk0 : 0 ≤ k) (hk9 : k ≤ 100)
    (m1 : m (Str.ofString "many") = some (.int (mN : Int) tm)) (m2 : m (Str.ofString "deck") = some (.ref dk)) (m3 : m (Str.ofString "wide") = some (.int wi tw)) (m4 : m (Str.ofString "high") = some (.int he th))
    (da : oa.data = .cell (some (.int ax ta))) (dl : ol.data = .cell (some (.int le tl))) (dr : orr.data = .cell (some (.ref rl))) (dt : ot.data = .cell none)
    (n1' : rl ≠ dk) (n2 : dk ≠ L + 1 + 1 + 1) (n3 : rl ≠ L + 1 + 1 + 1) (n4 : ce ≠ dk) (nc : ce ≠ L + 1 + 1 + 1) (nd : L + 1 + 1 + 1 + 1 ≠ dk) (ne : L + 1 + 1 + 1 + 1 ≠ rl) (nf : L + 1 + 1 + 1 + 1 ≠ ce) (ng : ce ≠ rl)
    (n7 : L + 1 + 1 ≠ dk) (n8 : L + 1 ≠ dk) (n10 : L + 1 + 1 ≠ rl) (n11 : L + 1 ≠ rl)
    (hret : ∀ (h9 : Heap) (tk9 : Nat) (m' : Str → Option Value) (nw : List (Addr × Obj)), Fr g L h9 m' → News g L h9 nw → Q (.ret (.bool true)) { s with heap := h9, toks := tk9 }) :
    wpAny (model PySem.Challenge.rw_np0057_01.row.prog w) (callerA.deeper (lawE L f cdv)) (execs (lawB.drop 5) (lawE L f cdv)) Q E s := by
  unfold lawE
  conv in (occs := *) lawS => all_goals whnf
  conv in lawB.drop 5 => whnf
  repeat' (first | (k_unfold; (try dsimp only)) | ((fail_if_success (with_reducible show wpAny _ _ (call (Value.ref 164) _) _ _ _)); first | walk1 | (dsimp only; walk1)))
  refine' tree_c ?B ?F ?X ?N ?T ?hk ?hd ?hu  ?_
  (case B => k_asm)
  (case F => k_asm)
  (case X => k_asm)
  (case N => k_asm)
  (case T => k_asm)
  (case hk => first | exact rfl | assumption)
  (case hd => ktr_room)
  (case hu => ktr_units)
  k_whole
  intro V W h9 tk9 F9 N9 hIs hlo hkvs hlast hlw hlh hroot hnum hso hpar hwid hhei hlt hord hsh
  (try dsimp only)
  obtain ⟨o1, o2, o3, o4, o5, o6, o7⟩ := id hord
  have hL4 := hlt (L + 1 + 1 + 1 + 1, ot) (by k_mem)
  have b1 := Nat.lt_trans hL4 o1
  have b2 := Nat.lt_trans b1 o2
  have b3 := Nat.lt_trans b2 o3
  have b4 := Nat.lt_trans b3 o4
  have b5 := Nat.lt_trans b4 o5
  have b6 := Nat.lt_trans b5 o6
  obtain ⟨six, hsix⟩ : ∃ six : List (Addr × Obj), six = [(dk, listOf #[.ref ce, .int k tkk] 0), (L + 1 + 1 + 1, orr), (rl, listOf rv.toArray n), (ce, listOf cv.toArray n1), (L + 1 + 1, ol), (L + 1, oa)] := ⟨_, rfl⟩
  have hsixlt : ∀ p ∈ six, p.1 < V.d := by
    rw [hsix]
    exact all_sub hlt (by walk_at "allmem")
  obtain ⟨rest, hrest⟩ : ∃ rest : List (Addr × Obj), rest = (V.d, dictOf (V.es w.params) 7) :: (V.wd, V.wo) :: (W.d, dictOf (W.es w.params) 16) :: (V.x, instObj 164 V.d) :: (W.x, instObj 93 W.d) :: (W.chi, listOf #[] 0) :: (W.ear, listOf #[] 0) :: six := ⟨_, rfl⟩
  have hro : ∀ p ∈ rest, p.1 ≠ L + 1 + 1 + 1 + 1 := by
    rw [hrest, hsix]
    refine List.forall_mem_cons.mpr ⟨Nat.ne_of_gt hL4, List.forall_mem_cons.mpr ⟨Nat.ne_of_gt b2, List.forall_mem_cons.mpr ⟨Nat.ne_of_gt b3, List.forall_mem_cons.mpr ⟨Nat.ne_of_gt b1, List.forall_mem_cons.mpr ⟨Nat.ne_of_gt b4, List.forall_mem_cons.mpr ⟨Nat.ne_of_gt b5, List.forall_mem_cons.mpr ⟨Nat.ne_of_gt b6, List.forall_mem_cons.mpr ⟨Ne.symm nd, List.forall_mem_cons.mpr ⟨Nat.ne_of_lt (Nat.lt_succ_self _), List.forall_mem_cons.mpr ⟨Ne.symm ne, List.forall_mem_cons.mpr ⟨Ne.symm nf, List.forall_mem_cons.mpr ⟨Nat.ne_of_lt (Nat.lt_succ_of_lt (Nat.lt_succ_self _)), List.forall_mem_cons.mpr ⟨Nat.ne_of_lt (Nat.lt_succ_of_lt (Nat.lt_succ_of_lt (Nat.lt_succ_self _))), List.forall_mem_nil _⟩⟩⟩⟩⟩⟩⟩⟩⟩⟩⟩⟩⟩
  have N10 : News g L _ ((L + 1 + 1 + 1 + 1, ot) :: rest) := cb_drop N9 (by
    rw [hrest, hsix]
    walk_at "allmem")
  clear N9
  repeat' (first | (k_unfold; (try dsimp only)) | ((fail_if_success (with_reducible show wpAny _ _ (exec (Stmt.For _ _ _ _ _) _) _ _ _)); first | walk1 | (dsimp only; walk1)))
  rename Fr _ _ _ _ => F11
  rename News _ _ _ _ => N11
  rename (_ = Data.cell (some (Value.ref V.x))) => dt2
  rename Obj => ot2
  have hsum := sum_ge hge
  rw [hrl] at hsum
  have hszW : W.size ax = rs.sum := by
    rcases hax with ⟨e, e2, e3⟩ | ⟨e, e2, e3⟩
    · rw [e3] at hsum
      show (if ax = 0 then W.wid else W.hei) = _
      rw [if_pos e, hwid]
      split <;> omega
    · rw [e3] at hsum
      show (if ax = 0 then W.wid else W.hei) = _
      rw [if_neg (by omega), hhei]
      split <;> omega
  have hle : (if ax = 0 then (3 : Int) else 2) = le := by
    rcases hax with ⟨e, e2, e3⟩ | ⟨e, e2, e3⟩
    · rw [if_pos e, e3]
    · rw [if_neg (by omega), e3]
  have hle0 : 0 < le := by rw [← hle]; split <;> decide
  have hax1 : ax = 0 ∨ ax = 1 := hax.imp (fun z => z.1) (fun z => z.1)
  have hP0 := pre_first (w := w) (ax := ax) (t := 0) (k1 := 0) (k2 := 0) (old := (L + 1 + 1 + 1 + 1, ot2) :: six) hIs hlo hkvs hlast hroot hnum hso hpar hsh hax1 (List.forall_mem_cons.mpr ⟨hL4, hsixlt⟩) hord
  have hsm : Sm mN := ⟨hm2, hm5⟩
  have hm12 : mN ≤ 12 := by omega
  have hm1 : 1 ≤ mN := by omega
  clear hm2 hm5 hwid hhei hax
  rename Fr _ _ _ _ => lF'
  with_unfolding_all refine' For_invVF lF' ?k1 ?k2 ?_ (hE := hE)
  (case k1 => exact rfl)
  (case k2 => exact rfl)
  repeat' (first | (k_unfold; (try dsimp only)) | ((fail_if_success (with_reducible show wpAny _ _ (pyIter (Value.ref _)) _ _ _)); first | walk1 | (dsimp only; walk1)))
  rename Fr _ _ _ _ => F12
  rename News _ _ _ _ => N12
  rename IsRange _ _ _ _ _ _ _ _ => rgX
  refine iter_rangeUnr (n := mN - 1) (by rfl) rgX (small_one (by omega) (by omega) (by omega) (by omega)) (by rw [rangeSize_nat]; omega) F12 N12 ?_
  intro I lI
  clear rgX F12 N12
  refine rng_ind2 (fun i m' nw' => ∃ (V' : Tre) (W' : Win) (t' : Tok) (ks' : List Kid) (bs' nw0 : List (Addr × Obj)), PreS w ax V' W' t' ks' bs' nw0 ∧ (∀ p ∈ nw0, p ∈ nw') ∧ (∀ p ∈ nw0, p.1 ≠ I) ∧ ks'.length = i ∧ W'.size ax = rs.sum - i * le ∧ V'.x = V.x ∧ V'.lw = 3 ∧ V'.lh = 2 ∧ (∀ q ∈ (L + 1 + 1 + 1 + 1, ot2) :: six, q ∈ bs') ∧ m' (Str.ofString "many") = some (.int (mN : Int) tm) ∧ m' (Str.ofString "deck") = some (.ref dk)) ?h0 ?turn ?done
  case h0 =>
    refine ⟨V, W, 0, [], _, _, hP0, ?_, ?_, rfl, by rw [hszW]; simp, rfl, hlw, hlh, fun q hq => .tail _ (.tail _ (.tail _ (.tail _ hq))), m1, m2⟩
    · rw [hrest]
      walk_at "allmem"
    · exact all_sub (fun p hp => Nat.ne_of_lt (lI p hp)) (by rw [hrest]; walk_at "allmem")
  case turn =>
    intro i m' nw' hi hX9 t it h tk8 hitc F4 N4
    refine ex6 hX9 ?_
    clear hX9
    intro V' W' t' ks' bs' nw0 hX9
    refine an11 hX9 ?_
    clear hX9
    intro hP hin hnI hkl hsz eV elw elh hold q1 q2
    obtain ⟨news2, hP2, hsub2⟩ := hP.push (a := I) (o := it) hnI
    have N5 : News g L h news2 := cb_drop N4 (fun p hp => by
      rcases List.mem_cons.mp (hsub2 p hp) with e | e
      · rw [e]; exact .head _
      · exact .tail _ (hin p e))
    have F5 : Fr g L h (fun y => if y = Str.ofString "lap" then some (.int (1 + (i : Int)) t) else m' y) := F4
    clear N4 F4
    have hsubP := hP2.sub
    have ca := hsubP _ (.tail _ (hold (L + 1, oa) (by rw [hsix]; k_mem)))
    have cl := hsubP _ (.tail _ (hold (L + 1 + 1, ol) (by rw [hsix]; k_mem)))
    have ct := hsubP _ (.tail _ (hold (L + 1 + 1 + 1 + 1, ot2) (.head _)))
    rw [← eV] at dt2
    repeat' (first | (k_unfold; (try dsimp only)) | ((fail_if_success (with_reducible show wpAny _ _ (call (Value.ref 196) _) _ _ _)); first | walk1 | (dsimp only; walk1)))
    refine' leaves_pre_c ?B ?F ?X ?N ?T ?hk ?hd ?hu ?hn ?_
    (case B => k_asm)
    (case F => k_asm)
    (case X => k_asm)
    (case N => k_asm)
    (case T => k_asm)
    (case hk => first | exact rfl | assumption)
    (case hd => ktr_room)
    (case hu => ktr_units)
    (case hn => exact hP2)
    k_whole
    intro l nl h9 tk9 F9 N9 l9
    repeat' (first | (k_unfold; (try dsimp only)) | ((fail_if_success (with_reducible show wpAny _ _ (subscriptTail _ _ (Value.ref _) (Value.int _ _)) _ _ _)); (fail_if_success (with_reducible show wpAny _ _ (call (Value.ref 279) _) _ _ _)); first | walk1 | (dsimp only; walk1)))
    refine' item_list_ints_negR ?hl (fv_ints (kids := ks' ++ [(W', t')])) ?h0 ?h1 ?hf ?_
    (case hl => kmk_list)
    (case h0 => decide)
    (case h1 => (simp only [List.length_map, List.length_append, List.length_singleton]; omega))
    (case hf => decide)
    intro tz
    have elast : ((ks' ++ [(W', t')]).map (·.1.num)).getD (-1 + ((((ks' ++ [(W', t')]).map (·.1.num)).length : Nat) : Int)).toNat 0 = W'.num := by
      have e : (-1 + ((((ks' ++ [(W', t')]).map (·.1.num)).length : Nat) : Int)).toNat = ks'.length := by
        rw [List.length_map, List.length_append, List.length_singleton]
        omega
      rw [e]
      exact getD_num (b := [])
    (try dsimp only)
    rw [elast]
    repeat' (first | (k_unfold; (try dsimp only)) | ((fail_if_success (with_reducible show wpAny _ _ (call (Value.ref 279) _) _ _ _)); first | walk1 | (dsimp only; walk1)))
    rename News _ _ _ _ => N13
    rename Fr _ _ _ _ => F13
    have N14 : News g L _ news2 := cb_drop N13 (fun p hp => .tail _ hp)
    clear N13
    have hnl : ((i : Int) + 2) * le ≤ (mN : Int) * le := Int.mul_le_mul_of_nonneg_right (by omega) (by omega)
    rw [Int.add_mul] at hnl
    have hml : (mN : Int) * le = le * (mN : Int) := Int.mul_comm _ _
    refine' split_c (sz := le) ?B ?F ?X ?N ?T ?hk ?hd ?hu hP2 hle0 (by rw [elw, elh, hle]; exact Int.le_refl _) (by rw [elw, elh, hle, hsz]; omega) (by have := hsm.h5; omega) ?_
    (case B => exact B)
    (case F => exact F13)
    (case X => exact X)
    (case N => exact N14)
    (case T => k_asm)
    (case hk => exact rfl)
    (case hd => ktr_room)
    (case hu => ktr_units)
    k_whole
    intro V2 R2 Nw ks2 tN bs2 n9 h15 tk15 t15 F15 N15 S9 f1 f2 f3 f4 f5 f6
    clear N14 F13
    repeat' (first | (k_unfold; (try dsimp only)) | ((fail_if_success (with_reducible show wpAny _ _ (exec (Stmt.While _ _ _ _) _) _ _ _)); (fail_if_success (with_reducible show WhlRest _ _ _ _ _ _ _ _ _ _ _)); (fail_if_success (with_reducible show WStep _ _ _ _ _ _)); first | walk1 | (dsimp only; walk1)))
    rename News _ _ _ _ => N16
    rename Fr _ _ _ _ => F16
    obtain ⟨S10, hled⟩ := S9.drop N16 (f6 (I, it) (.head _)) hitc
    have hsz2 : Nw.size ax = W'.size ax - le := by
      have := congrArg (fun l => l.getLast?) f5
      simpa using this
    refine RStep.next _ F16 N16 (List.forall_mem_cons.mpr ⟨led_base (.tail _ (.tail _ (.tail _ (f6 (I, it) (.head _))))), fun p hp => (hled p hp).1⟩) (fun p hp => (hled p hp).2)
      ⟨V2, Nw, tN, ks2, _, _, .next S10 (by rw [List.length_append, f4]; have := hsm.h5; simp; omega), fun p hp => hp, fun p hp => (hled p hp).2, by rw [f4, hkl], ?_, f1.trans eV, f2.trans elw, f3.trans elh, fun q hq => List.mem_filter.mpr ⟨f6 q (.tail _ (hold q hq)), decide_eq_true (hnI q (hP.sub q (hold q hq)))⟩, q1, q2⟩
    rw [hsz2, hsz, Int.natCast_add, Int.add_mul]
    simp
    omega
  case done =>
    intro m' nw' h tk8 hX9 F4 N4
    refine ex6 hX9 ?_
    clear hX9
    intro V' W' t' ks' bs' nw0 hX9
    refine an11 hX9 ?_
    clear hX9
    intro hP hin hnI hkl hsz eV elw elh hold q1 q2
    cases hP with
    | first e => 
      subst e
      have := hsm.h2
      simp at hkl
      omega
    | next S hl2 =>
      rename_i R2 nn
      have N5 := cb_drop N4 hin
      rw [← eV] at dt2
      repeat' (first | (k_unfold; (try dsimp only)) | ((fail_if_success (with_reducible show wpAny _ _ (execs (_ :: _) _) _ _ _)); first | walk1 | (dsimp only; walk1)))
      rename News _ _ _ _ => N16
      rename Fr _ _ _ _ => F16
      refine' rest2_c (mN := mN) (k := k) (tkk := tkk) (n := n) (n1 := n1) (ot := ot2) (rv := rv) (cv := cv) (ce := ce) (rs := rs) (ax := ax) (le := le) (kids := ks' ++ [(W', t')]) B ?F X T ?N S (by rw [List.length_append, hkl]; simp; omega) (by rw [elw, elh]; exact hle) ?hb hE hsm.h2 hsm.h5 hrv hrl hge hcv hns hk0 hk9 q1 q2 da dl dr dt2 n1' n2 n3 n4 nc nd ne nf ng n7 n8 n10 n11 ?_
      (case F => exact F16)
      (case N => exact N16)
      (case hb =>
        refine all_sub hold ?_
        rw [hsix]
        walk_at "allmem")
      k_whole
      intro h17 tk17 m17 nw17 F17 N17
      exact hret _ _ _ _ F17 N17



end PartD23
section PartD25
theorem words_28 : True := by
  k_with "ne1" => first | walk_at "pj" | exact Ne.symm (by walk_at "pj")
  trivial

theorem pick2 {r a b : Int} {ta tb : Tok} (h0 : 0 ≤ r) (h1 : r < 2) : [Value.int a ta, .int b tb][r.toNat]? = some (.int (if r = 0 then a else b) (if r = 0 then ta else tb)) := by
  rcases (show r = 0 ∨ r = 1 by omega) with e | e <;> subst e <;> rfl

theorem words_29 : True := by
  k_with "subscriptTail" => ((with_reducible show wpAny _ _ (subscriptTail _ _ (Value.ref _) (Value.int _ _)) _ _ _); k_dflt (first
    | (refine' ksa_sub ?wk1 ?wk2 ?wk3 ?wk4 ?wk5 ?wk6 ?_ ?wk7; (case wk1 => k_asm); (case wk2 => with_reducible assumption); (case wk3 => with_reducible assumption); (case wk4 => (first | omega | decide | (simp only [List.length_append, List.length_cons, List.length_reverse, List.length_map, List.length_nil, List.length_range, List.length_set]; omega))); (case wk5 => (first | omega | decide | (simp only [List.length_append, List.length_cons, List.length_reverse, List.length_map, List.length_nil, List.length_range, List.length_set]; omega))); (case wk6 => (first | omega | decide | (simp only [List.length_append, List.length_cons, List.length_reverse, List.length_map, List.length_nil, List.length_range, List.length_set]; omega))); (case wk7 => with_unfolding_all rfl); intro _)
    | (refine' item_litK ?wk1 ?wk2 ?wk3 ?wk4 ?_ ?wk6; (case wk1 => kmk_list); (case wk2 => decide); (case wk3 => decide); (case wk4 => rfl); (case wk6 => with_unfolding_all rfl))))
  k_with "setItem ref int" => (k_dflt (refine' set_l ?wF ?wN ?wM ?wU ?wa ?wb ?wc ?_; (case wF => k_asm); (case wN => k_asm); (case wM => k_mem); (case wU => first | (rename (∀ t : Tok, Upd _ _ _ _ _) => hU9; exact hU9 _) | walk_at "upd"); (case wa => (first | omega | decide | (simp only [List.length_append, List.length_cons, List.length_reverse, List.length_map, List.length_nil, List.length_range, List.length_set]; omega))); (case wb => (first | omega | decide | (simp only [List.length_append, List.length_cons, List.length_reverse, List.length_map, List.length_nil, List.length_range, List.length_set]; omega))); (case wc => (first | omega | decide | (simp only [List.length_append, List.length_cons, List.length_reverse, List.length_map, List.length_nil, List.length_range, List.length_set]; omega))); k_whole); intro _ _ wN'; (try dsimp only at wN'); (try k_sweep); (revert wN'; intro _))
  k_with "call builtin:len" => ((with_reducible show wpAny _ _ (call (Value.builtin "len") [Value.ref _]) _ _ _); k_dflt (refine' PySem.W.KM.len_K ?wN ?wm ?ws ?wf ?_; (case wN => k_asm); (case wm => k_mem); (case ws => first | exact (List.size_toArray ..).trans (IntsAre.length (by with_reducible assumption)) | exact rfl); (case wf => first | omega | decide | (simp only [List.length_append, List.length_cons, List.length_reverse, List.length_map, List.length_nil, List.length_range, List.length_set] at *; omega)); k_whole))
  trivial

local macro_rules | `(tactic| k_qdec) => `(tactic| kernel_rfl)
set_option maxRecDepth 100000 in
set_option maxHeartbeats 8000000 in
theorem law_try : PySem.Challenge.rw_np0057_01.Holds := by
  w_on
  refine holds_law said1 fun _ => ?_
  refine holds_open (q := hd.view_39) (loose := []) (Xt := fun s => xlAt hd.view_39 [] s && recOk (RowW.records PySem.Challenge.rw_np0057_01.row.toRowW) s) (XP := XL hd.view_39 []) (Yf := Hook.obs (kHook hd.heap_39 heapA heapE)) (Ya := Hook.val (kHook hd.heap_39 heapA heapE)) (YP := Hook.says (kHook hd.heap_39 heapA heapE)) (N := 3946) left2 (Hook.of (kHook hd.heap_39 heapA heapE)) (Hook.keeps (kHook hd.heap_39 heapA heapE)) (fun s e => xl_of s (Bool.and_eq_true_iff.mp e).1) XL.keeps (by rfl) (by rfl) (by rfl) (fun s e => recFacts_of (Bool.and_eq_true_iff.mp e).2) (by rfl) (by first | assumption | decide +kernel) (by decide +kernel) ⟨rfl, rfl, rfl, rfl, rfl, by decide +kernel⟩ ?hw ?hc
  case hw => w_witness2
  k_go0
  rename_i said w s0 s1 mg mb G Y fa o pm doc ho hg KX X V GL T Bt TE TW m13 m12 M m11 m10 hcd sc hs hlay hL1 hr1 hl2 a8 a7 la vs a4 hL ra w1 r0 hI hr hc1 hc2 K0 hD h1 tk1 F c1 c2 c3 c4 d1 d2 d3 d4 N0 X0
  have K1 : Below callerA s1.heap [] s1.heap := K0
  have F1 : Fr s1.heap s1.heap.objs.size h1 (fun y => if y = Str.ofString "script" then some (.ref la) else none) := F
  have e1 : c1.data = .cell none := d1
  have e2 : c2.data = .cell none := d2
  have e3 : c3.data = .cell none := d3
  have e4 : c4.data = .cell none := d4
  clear said F d1 d2 d3 d4 X0 hD hcd K0 M r0 w1 ra hr hc2 hl2 hr1 hL1 hlay hs TW TE Bt GL V X ho Y G
  repeat' (first | (k_unfold; (try dsimp only)) | ((fail_if_success (with_reducible show wpAny _ _ (call (Value.ref 300) _) _ _ _)); (fail_if_success (with_reducible show wpAny _ _ (subscriptTail _ _ (Value.ref _) (Value.int _ _)) _ _ _)); (fail_if_success (with_reducible show wpAny _ _ (exec (Stmt.For _ _ _ _ _) _) _ _ _)); first | walk1 | (dsimp only; walk1)))
  refine' draw_c ?B ?F ?X ?N ?T ?hk ?hd ?hu ?hd1 ?hd2 ?hi ?hlen ?hk0 ?hk9 ?hmn ?hmx ?hne ?U ?_
  (case B => k_asm)
  (case F => k_asm)
  (case X => k_asm)
  (case N => k_asm)
  (case T => k_asm)
  (case hk => first | exact rfl | assumption)
  (case hd => ktr_room)
  (case hu => ktr_units)
  (case hd1 => k_mem)
  (case hd2 => k_mem)
  (case hi => with_reducible assumption)
  (case hlen => first | assumption | (simp only [List.length_map, List.length_take]; omega))
  (case hk0 => first | assumption | omega)
  (case hk9 => first | assumption | omega)
  (case hmn => first | assumption | omega)
  (case hmx => first | assumption | omega)
  (case hne => first | with_reducible assumption | exact ne_all (by walk_at "alllt") (by first | assumption | k_mem) | k_ne)
  (case U => exact fun _ => by walk_at "upd")
  k_whole
  intro ra t9 t8 h9 tk9 ra0 ra1 F9 N9
  repeat' (first | (k_unfold; (try dsimp only)) | ((fail_if_success (with_reducible show wpAny _ _ (call (Value.ref 300) _) _ _ _)); (fail_if_success (with_reducible show wpAny _ _ (subscriptTail _ _ (Value.ref _) (Value.int _ _)) _ _ _)); (fail_if_success (with_reducible show wpAny _ _ (exec (Stmt.For _ _ _ _ _) _) _ _ _)); first | walk1 | (dsimp only; walk1)))
  refine' item_litK ?k1 ?k2 ?k3 ?k4 ?_ ?k6
  (case k1 => kmk_list)
  (case k2 => omega)
  (case k3 => omega)
  (case k4 => exact pick2 (by omega) (by omega))
  (case k6 => with_unfolding_all rfl)
  generalize hax : (if ra = 0 then (1 : Int) else 0) = ax
  (try dsimp only)
  repeat' (first | (k_unfold; (try dsimp only)) | ((fail_if_success (with_reducible show wpAny _ _ (call (Value.ref 300) _) _ _ _)); (fail_if_success (with_reducible show wpAny _ _ (subscriptTail _ _ (Value.ref _) (Value.int _ _)) _ _ _)); (fail_if_success (with_reducible show wpAny _ _ (exec (Stmt.For _ _ _ _ _) _) _ _ _)); first | walk1 | (dsimp only; walk1)))
  refine' draw_c ?B ?F ?X ?N ?T ?hk ?hd ?hu ?hd1 ?hd2 ?hi ?hlen ?hk0 ?hk9 ?hmn ?hmx ?hne ?U ?_
  (case B => k_asm)
  (case F => k_asm)
  (case X => k_asm)
  (case N => k_asm)
  (case T => k_asm)
  (case hk => first | exact rfl | assumption)
  (case hd => ktr_room)
  (case hu => ktr_units)
  (case hd1 => k_mem)
  (case hd2 => k_mem)
  (case hi => with_reducible assumption)
  (case hlen => first | assumption | (simp only [List.length_map, List.length_take]; omega))
  (case hk0 => first | assumption | omega)
  (case hk9 => first | assumption | omega)
  (case hmn => first | assumption | omega)
  (case hmx => first | assumption | omega)
  (case hne => first | with_reducible assumption | exact ne_all (by walk_at "alllt") (by first | assumption | k_mem) | k_ne)
  (case U => exact fun _ => by walk_at "upd")
  k_whole
  intro rm t9 t8 h9 tk9 rm0 rm1 F9 N9
  have ax0 : 0 ≤ ax := by rw [← hax]; split <;> decide
  have ax2 : ax < 2 := by rw [← hax]; split <;> decide
  repeat' (first | (k_unfold; (try dsimp only)) | ((fail_if_success (with_reducible show wpAny _ _ (call (Value.ref 300) _) _ _ _)); (fail_if_success (with_reducible show wpAny _ _ (subscriptTail _ _ (Value.ref _) (Value.int _ _)) _ _ _)); (fail_if_success (with_reducible show wpAny _ _ (exec (Stmt.For _ _ _ _ _) _) _ _ _)); first | walk1 | (dsimp only; walk1)))
  refine' item_litK ?k1 ?k2 ?k3 ?k4 ?_ ?k6
  (case k1 => kmk_list)
  (case k2 => omega)
  (case k3 => omega)
  (case k4 => exact pick2 (by omega) (by omega))
  (case k6 => with_unfolding_all rfl)
  generalize hle : (if ax = 0 then (3 : Int) else 2) = le
  (try dsimp only)
  repeat' (first | (k_unfold; (try dsimp only)) | ((fail_if_success (with_reducible show wpAny _ _ (call (Value.ref 300) _) _ _ _)); (fail_if_success (with_reducible show wpAny _ _ (subscriptTail _ _ (Value.ref _) (Value.int _ _)) _ _ _)); (fail_if_success (with_reducible show wpAny _ _ (exec (Stmt.For _ _ _ _ _) _) _ _ _)); first | walk1 | (dsimp only; walk1)))
  rename_i D0 ws0 h00 hI0 hC0 hL0 l00 hk00 hk01 g00 hI8 hL8 ce h01 tk01 o01 dk h02 l02 h03 tk02 hw h04 l03 t9a t8a h9a tk9a D2 h05 l05 h06 h07 oa da h08 tk08 h34 h09 l09 rl h10 l10 D3 h11 l11 h12 h13 ol dl h14 orr F2 N2 dr
  obtain ⟨mN, hmN⟩ : ∃ mN : Nat, 2 + rm = (mN : Int) := ⟨(2 + rm).toNat, by omega⟩
  rw [hmN] at F2
  have hm2 : 2 ≤ mN := by omega
  have hm5 : mN ≤ 5 := by omega
  have hsm : Sm mN := ⟨hm2, hm5⟩
  have hm12 : mN ≤ 12 := by omega
  clear hm2 hm5 hmN rm0 rm1
  obtain ⟨NS, hNS⟩ : ∃ NS, NS = List.map (fun k' => if k' < 0 then -k' else k') (List.take 63 sc) := ⟨_, rfl⟩
  rw [← hNS] at hI8
  have hns : NS.length ≤ 63 := by rw [hNS, List.length_map, List.length_take]; omega
  generalize hL : s1.heap.objs.size = L at *
  have n1 : rl ≠ dk := by k_ne
  have n2 : dk ≠ L + 1 + 1 + 1 := by k_ne
  have n3 : rl ≠ L + 1 + 1 + 1 := by k_ne
  have n4 : ce ≠ dk := by k_ne
  have n5 : dk ≠ rl := Ne.symm n1
  have n6 : ce ≠ rl := by k_ne
  have n7 : L + 1 + 1 ≠ dk := by k_ne
  have n8 : L + 1 ≠ dk := by k_ne
  have n9 : L + 1 + 1 + 1 + 1 ≠ dk := by k_ne
  have n10 : L + 1 + 1 ≠ rl := by k_ne
  have n11 : L + 1 ≠ rl := by k_ne
  have n12 : L + 1 + 1 + 1 + 1 ≠ rl := by k_ne
  have n13 : L + 1 + 1 + 1 ≠ dk := Ne.symm n2
  have nc9 : ce ≠ L + 1 + 1 + 1 := by k_ne
  have nf9 : L + 1 + 1 + 1 + 1 ≠ ce := by k_ne
  have n14 : L + 1 + 1 + 1 ≠ rl := Ne.symm n3
  clear hI0 hC0 hL0 l00 hk00 hk01 hL8 o01 l02 l03 l05 l09 l10 l11
  have N2' : News s1.heap L _ [(dk, listOf #[.ref ce, .int (0 + 1 + 1) t8] 0), (L + 1 + 1 + 1, orr), (rl, listOf #[] 0), (ce, listOf ys.toArray ys.length), (L + 1 + 1, ol), (L + 1, oa), (L + 1 + 1 + 1 + 1, c1)] := cb_drop N2 (by
    refine List.forall_mem_cons.mpr ⟨by k_mem, List.forall_mem_cons.mpr ⟨by k_mem, List.forall_mem_cons.mpr ⟨by k_mem, List.forall_mem_cons.mpr ⟨by k_mem, List.forall_mem_cons.mpr ⟨by k_mem, List.forall_mem_cons.mpr ⟨by k_mem, List.forall_mem_cons.mpr ⟨by k_mem, List.forall_mem_nil _⟩⟩⟩⟩⟩⟩⟩)
  clear N2
  rename Fr _ _ _ _ => lF'
  with_unfolding_all refine' For_invVF lF' ?k1 ?k2 ?_
  (case k1 => exact rfl)
  (case k2 => exact rfl)
  repeat' (first | (k_unfold; (try dsimp only)) | ((fail_if_success (with_reducible show wpAny _ _ (pyIter (Value.ref _)) _ _ _)); first | walk1 | (dsimp only; walk1)))
  rename Fr _ _ _ _ => F3
  rename News _ _ _ _ => N3
  rename IsRange _ _ _ _ _ _ _ _ => rgX
  refine iter_rangeUnr (n := mN) (by rfl) rgX (zr_small (by omega)) zr_size F3 N3 ?_
  intro I lI
  have i1 : I ≠ dk := Nat.ne_of_gt (lI _ (.head _))
  have i2 : I ≠ L + 1 + 1 + 1 := Nat.ne_of_gt (lI _ (.tail _ (.head _)))
  have i3 : I ≠ rl := Nat.ne_of_gt (lI _ (.tail _ (.tail _ (.head _))))
  have i4 : I ≠ ce := Nat.ne_of_gt (lI _ (.tail _ (.tail _ (.tail _ (.head _)))))
  have i5 : I ≠ L + 1 + 1 := Nat.ne_of_gt (lI _ (.tail _ (.tail _ (.tail _ (.tail _ (.head _))))))
  have i6 : I ≠ L + 1 := Nat.ne_of_gt (lI _ (.tail _ (.tail _ (.tail _ (.tail _ (.tail _ (.head _)))))))
  have i7 : I ≠ L + 1 + 1 + 1 + 1 := Nat.ne_of_gt (lI _ (.tail _ (.tail _ (.tail _ (.tail _ (.tail _ (.tail _ (.head _))))))))
  have i1' := Ne.symm i1
  have i3' := Ne.symm i3
  clear rgX F3 N3
  refine rng_ind (fun i m' nw' => ∃ (rv : List Value) (rs : List Int) (n : Nat) (k : Int) (tk : Tok), m' (Str.ofString "many") = some (.int (mN : Int) tk9) ∧ m' (Str.ofString "deck") = some (.ref dk) ∧ IntsAre rv rs ∧ rs.length = i ∧ (∀ r ∈ rs, le ≤ r) ∧ k = 2 + (i : Int) ∧ (∀ p ∈ [(dk, listOf #[.ref ce, .int k tk] 0), (L + 1 + 1 + 1, orr), (rl, listOf rv.toArray n), (ce, listOf ys.toArray ys.length), (L + 1 + 1, ol), (L + 1, oa), (L + 1 + 1 + 1 + 1, c1)], p ∈ nw'))
    ⟨[], [], 0, 0 + 1 + 1, t8, ?za, ?zb, .nil, rfl, fun r hr => (List.not_mem_nil hr).elim, ?zc, ?zd⟩ ?turn ?done
  case za => exact rfl
  case zb => exact rfl
  case zc => omega
  case zd => exact fun p hp => hp
  case turn =>
    intro i m' nw' hi hX9 t it h tk8 F4 N4
    refine ex5 hX9 ?_
    clear hX9
    intro rv rs n k tkk hX9
    refine an7 hX9 ?_
    clear hX9
    intro m1 m2 hrv hrl hge hk hin
    have N5 : News s1.heap L h ((I, it) :: [(dk, listOf #[.ref ce, .int k tkk] 0), (L + 1 + 1 + 1, orr), (rl, listOf rv.toArray n), (ce, listOf ys.toArray ys.length), (L + 1 + 1, ol), (L + 1, oa), (L + 1 + 1 + 1 + 1, c1)]) := cb_drop N4 (List.forall_mem_cons.mpr ⟨.head _, fun p hp => .tail _ (hin p hp)⟩)
    have F5 : Fr s1.heap L h (fun y => if y = Str.ofString "lap" then some (.int (0 + (i : Int)) t) else m' y) := F4
    clear N4 F4
    have hrvl : rv.length = i := hrv.length.trans hrl
    repeat' (first | (k_unfold; (try dsimp only)) | ((fail_if_success (with_reducible show wpAny _ _ (call (Value.ref 300) _) _ _ _)); first | walk1 | (dsimp only; walk1)))
    refine' draw_c ?B ?F ?X ?N ?T ?hk ?hd ?hu ?hd1 ?hd2 ?hi ?hlen ?hk0 ?hk9 ?hmn ?hmx ?hne ?U ?_
    (case B => k_asm)
    (case F => k_asm)
    (case X => k_asm)
    (case N => k_asm)
    (case T => k_asm)
    (case hk => first | exact rfl | assumption)
    (case hd => ktr_room)
    (case hu => ktr_units)
    (case hd1 => k_mem)
    (case hd2 => k_mem)
    (case hi => with_reducible assumption)
    (case hlen => first | assumption | (simp only [List.length_map, List.length_take]; omega))
    (case hk0 => first | assumption | omega)
    (case hk9 => first | assumption | omega)
    (case hmn => first | assumption | omega)
    (case hmx => first | assumption | omega)
    (case hne => first | with_reducible assumption | exact ne_all (by walk_at "alllt") (by first | assumption | k_mem) | k_ne)
    (case U => exact fun _ => by walk_at "upd")
    k_whole
    intro rd t9 t8 h9 tk9 rd0 rd1 F9 N9
    repeat' (first | (k_unfold; (try dsimp only)) | ((fail_if_success (with_reducible show wpAny _ _ (exec (Stmt.While _ _ _ _) _) _ _ _)); (fail_if_success (with_reducible show WhlRest _ _ _ _ _ _ _ _ _ _ _)); (fail_if_success (with_reducible show WStep _ _ _ _ _ _)); first | walk1 | (dsimp only; walk1)))
    rename Fr _ _ _ _ => F6
    rename News _ _ _ _ => N6
    refine RStep.next _ F6 N6 (fun p hp => hp) (List.forall_mem_cons.mpr ⟨Ne.symm i1, List.forall_mem_cons.mpr ⟨Ne.symm i2, List.forall_mem_cons.mpr ⟨Ne.symm i3, List.forall_mem_cons.mpr ⟨Ne.symm i4, List.forall_mem_cons.mpr ⟨Ne.symm i5, List.forall_mem_cons.mpr ⟨Ne.symm i6, List.forall_mem_cons.mpr ⟨Ne.symm i7, List.forall_mem_nil _⟩⟩⟩⟩⟩⟩⟩)
      ⟨rv ++ [.int (le + rd) _], rs ++ [le + rd], n + 1, k + 1, _, m1, m2, IntsAre.snoc hrv, by rw [List.length_append, hrl]; rfl, fun r hr => ?_, by omega, fun p hp => hp⟩
    rcases List.mem_append.mp hr with hr | hr
    · exact hge r hr
    · rw [List.mem_singleton.mp hr]; omega
  case done =>
    intro m' nw' h tk8 hX9 F4 N4
    refine ex5 hX9 ?_
    clear hX9
    intro rv rs n k tkk hX9
    refine an7 hX9 ?_
    clear hX9
    intro m1 m2 hrv hrl hge hk hin
    have N5 : News s1.heap L h [(dk, listOf #[.ref ce, .int k tkk] 0), (L + 1 + 1 + 1, orr), (rl, listOf rv.toArray n), (ce, listOf ys.toArray ys.length), (L + 1 + 1, ol), (L + 1, oa), (L + 1 + 1 + 1 + 1, c1)] := cb_drop N4 hin
    clear N4
    have F5 : Fr s1.heap L h m' := F4
    clear F4
    by_cases hx0 : ax = 0
    · walk1
      repeat' (first | (k_unfold; (try dsimp only)) | ((fail_if_success (with_reducible show wpAny _ _ (execs (_ :: _) _) _ _ _)); first | walk1 | (dsimp only; walk1)))
      rename Fr _ _ _ _ => F6
      rename News _ _ _ _ => N6
      refine' rest_c (mN := mN) (k := k) (rs := rs) (wi := rs.sum) (he := 5) K1 ?F KX ?T ?N (by passes_own) hsm.h2 hsm.h5 (.inl ⟨hx0, rfl, by rw [← hle, if_pos hx0]⟩) hrv hrl hge hI8 hns (by omega) (by omega) ?m1 ?m2 ?m3 ?m4 da dl dr e1 n1 n2 n3 n4 nc9 n9 n12 nf9 n6 n7 n8 n10 n11 ?_
      (case F => exact F6)
      (case T => k_asm)
      (case N => exact cb_drop N6 (by refine List.forall_mem_cons.mpr ⟨by k_mem, List.forall_mem_cons.mpr ⟨by k_mem, List.forall_mem_cons.mpr ⟨by k_mem, List.forall_mem_cons.mpr ⟨by k_mem, List.forall_mem_cons.mpr ⟨by k_mem, List.forall_mem_cons.mpr ⟨by k_mem, List.forall_mem_cons.mpr ⟨by k_mem, List.forall_mem_nil _⟩⟩⟩⟩⟩⟩⟩))
      (case m1 => exact m1)
      (case m2 => exact m2)
      (case m3 => exact rfl)
      (case m4 => exact rfl)
      k_whole
      intro h9 tk9 m9 nw9 F9 N9
      exact goodW_bool F9 hg (fun _ => rfl) (by wrow_post)
    · walk1
      repeat' (first | (k_unfold; (try dsimp only)) | ((fail_if_success (with_reducible show wpAny _ _ (execs (_ :: _) _) _ _ _)); first | walk1 | (dsimp only; walk1)))
      rename Fr _ _ _ _ => F6
      rename News _ _ _ _ => N6
      refine' rest_c (mN := mN) (k := k) (rs := rs) (wi := 8) (he := rs.sum) K1 ?F KX ?T ?N (by passes_own) hsm.h2 hsm.h5 (.inr ⟨by omega, rfl, by rw [← hle, if_neg hx0]⟩) hrv hrl hge hI8 hns (by omega) (by omega) ?m1 ?m2 ?m3 ?m4 da dl dr e1 n1 n2 n3 n4 nc9 n9 n12 nf9 n6 n7 n8 n10 n11 ?_
      (case F => exact F6)
      (case T => k_asm)
      (case N => exact cb_drop N6 (by refine List.forall_mem_cons.mpr ⟨by k_mem, List.forall_mem_cons.mpr ⟨by k_mem, List.forall_mem_cons.mpr ⟨by k_mem, List.forall_mem_cons.mpr ⟨by k_mem, List.forall_mem_cons.mpr ⟨by k_mem, List.forall_mem_cons.mpr ⟨by k_mem, List.forall_mem_cons.mpr ⟨by k_mem, List.forall_mem_nil _⟩⟩⟩⟩⟩⟩⟩))
      (case m1 => exact m1)
      (case m2 => exact m2)
      (case m3 => exact rfl)
      (case m4 => exact rfl)
      k_whole
      intro h9 tk9 m9 nw9 F9 N9
      exact goodW_bool F9 hg (fun _ => rfl) (by wrow_post)



end PartD25
end Mine
set_option maxRecDepth 100000 in
set_option maxHeartbeats 8000000 in
theorem PySem.Challenge.cw_np0057_01_holds : PySem.Challenge.rw_np0057_01.Holds := by
  exact Mine.law_try

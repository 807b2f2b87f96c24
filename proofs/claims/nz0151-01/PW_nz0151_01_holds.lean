import PyProof.Rows.All
import Wide.All
import OpenK.AllK
import Wide.FinOn
import Lean
import PySem.Challenge.RW_nz0151_01
open PySem PySem.W PySem.Calls PyProof.Rows PySem.SeqAt
set_option Elab.async false
set_option linter.all false
set_option maxRecDepth 100000
set_option maxHeartbeats 8000000
namespace Mine
noncomputable abbrev prg : Program := PySem.Challenge.pw_nz0151_01
noncomputable abbrev S (s : String) : Str := Str.ofString s
noncomputable def nth : List Stmt → Nat → Stmt
  | [], _ => .Pass ⟨0, 0, 0, 0⟩
  | s :: _, 0 => s
  | _ :: r, n + 1 => nth r n
noncomputable def inCls : Stmt → List Stmt
  | .ClassDef _ _ _ b _ _ _ _ _ _ _ => b
  | _ => []
noncomputable def top (i : Nat) : Stmt := nth prg.main.body i
noncomputable def mem (i j : Nat) : Stmt := nth (inCls (top i)) j
noncomputable def dArgs : Stmt → Arguments
  | .FunctionDef _ a _ _ _ _ _ _ _ _ => a
  | _ => { posonlyargs := [], args := [], vararg := none, kwonlyargs := [], kw_defaults := [], kwarg := none, defaults := [] }
noncomputable def dBody : Stmt → List Stmt
  | .FunctionDef _ _ b _ _ _ _ _ _ _ => b
  | _ => []
noncomputable def dScope : Stmt → Scope
  | .FunctionDef _ _ _ _ _ _ s _ _ _ => s
  | _ => { kind := .module, names := [], isGenerator := false, isCoroutine := false, more := [] }
noncomputable abbrev dE (P : Params) (s : String) (t : Nat) (v : Value) : DictEntry := ⟨PyData.keyHash P (Str.ofString s), .str (Str.ofString s) t, v⟩
noncomputable abbrev fnD (s : Stmt) (name qual : Str) (cl : List (Str × Addr)) (dV kV doc pm : Value) (an : Option Addr) (cd ct : Value) (g b : Addr) : Data :=
  .func { name := name, qualname := qual, params := dArgs s, body := .stmts (dBody s), scope := dScope s, globals := g, closure := cl, defaults := dV, kwdefaults := kV, doc := doc, pyModule := pm, annotations := an, code := cd, closureTuple := ct, builtins := b }
noncomputable abbrev sV (s : String) (n : Nat) : Value := .str (S s) n
noncomputable abbrev iV (n : Int) : Value := .int n 0
noncomputable abbrev tO (l : List Value) : Obj := ⟨.type "tuple", none, .seq l.toArray 0, #[]⟩
noncomputable abbrev fO (l : List Value) : Obj := ⟨.none, none, .fields l.toArray, #[]⟩
noncomputable abbrev cO (n q : String) (t : Nat) (l a k : Int) (r : Addr) (b : Bool) (x : Addr) (u v y : Value) (z : Nat) : Obj := ⟨.type "code", none, .fields [sV n t, sV q (t + 1), sV "/claim/cut.py" (t + 2), iV l, iV a, iV 0, iV 0, iV k, .ref r, .bool b, iV 181, .ref x, .none, u, v, y, iV z, iV l, sV "/claim/cut.py" (z + 1)].toArray, #[]⟩
noncomputable abbrev nO (s : Stmt) (n q : String) : Obj := ⟨.none, none, fnD s (S n) (S q) [] .none .none .none .none none .none .none 0 0, #[]⟩
noncomputable abbrev uO (s : Stmt) (n q m : String) (t : Nat) (c : Addr) : Obj := ⟨.type "function", none, fnD s (S n) (S q) [] .none .none .none (sV m t) none (.ref c) .none 3 0, #[]⟩
noncomputable def o11 : Obj := tO []
noncomputable def o12 : Obj := fO []
noncomputable def o13 : Obj := cO "<module>" "<module>" 182 1 0 0 11 false 12 .none .none .none 185
noncomputable def o14 : Obj := ⟨(.type "frame"), none, .plain, [some (.ref 13), some (.ref 3), some (.ref 3), none, some (sV "__main__" 164), none, some (.ref 0)].toArray⟩
noncomputable def o2v1 (P : Params) : Obj := ⟨.none, none, (.dict [dE P "type.__subclasses__.Exception.0" 230 (iV 47), dE P "type.__subclasses__.Exception.n" 231 (iV 1)].toArray 2), #[]⟩
noncomputable def o3v1 (P : Params) : Obj := ⟨(.type "dict"), none, (.dict [dE P "__name__" 165 (sV "minismt.terms" 284), dE P "__doc__" 166 .none, dE P "__package__" 167 .none, dE P "__loader__" 168 (.builtin "__main__.__loader__#opaque"), dE P "__spec__" 169 .none, dE P "__annotations__" 170 (.ref 6), dE P "__builtins__" 171 (.ref 4), dE P "__file__" 173 (sV "/claim/cut.py" 172), dE P "__cached__" 174 .none, dE P "_wall" 193 (.ref 21), dE P "SmtError" 233 (.ref 47), dE P "SortFault" 256 (.ref 67), dE P "is_number" 265 (.ref 76), dE P "are_same_sets" 273 (.ref 83), dE P "without_doubles" 283 (.ref 90), dE P "BOOL" 287 (.int 0 286)].toArray 16), #[]⟩
noncomputable def o12v1 : Obj := fO [iV 1, iV 0, .ref 20, iV 5, iV 0, .ref 28, iV 13, iV 0, .ref 56, iV 18, iV 0, .ref 75, iV 20, iV 0, .ref 82, iV 22, iV 0, .ref 89]
noncomputable def o17 : Obj := tO [sV "k" 190]
noncomputable def o19 : Obj := nO (top 0) "_wall" "_wall"
noncomputable def o20 : Obj := cO "_wall" "_wall" 187 1 1 3 15 true 16 (.ref 17) (.ref 18) (.ref 19) 191
noncomputable def o21 : Obj := uO (top 0) "_wall" "_wall" "__main__" 164 20
noncomputable def o22 : Obj := tO [.type "Exception"]
noncomputable def o23 : Obj := ⟨(.type "builtin_function_or_method"), none, (.fields [(.builtin "type.__prepare__"), (.type "type")].toArray), #[]⟩
noncomputable def o24 (P : Params) : Obj := ⟨(.type "dict"), none, (.dict [dE P "__module__" 203 (sV "minismt.errors" 194), dE P "__qualname__" 205 (sV "SmtError" 204), dE P "__firstlineno__" 207 (.int 5 206), dE P "__init__" 216 (.ref 37), dE P "told" 223 (.ref 44), dE P "__static_attributes__" 225 (.ref 45), dE P "__classcell__" 226 (.ref 25)].toArray 7), #[]⟩
noncomputable def o25 : Obj := ⟨(.type "cell"), none, (.cell (some (.ref 47))), #[]⟩
noncomputable def o27 : Obj := fO [iV 7, iV 4, .ref 36, iV 11, iV 4, .ref 43]
noncomputable def o28 : Obj := cO "SmtError" "SmtError" 198 5 0 0 26 false 27 .none .none .none 201
noncomputable def o29 : Obj := ⟨(.type "frame"), none, .plain, [some (.ref 28), some (.ref 3), some (.ref 24), none, some (sV "minismt.errors" 194), none, some (.ref 0)].toArray⟩
noncomputable def o30 : Obj := tO [.ref 25]
noncomputable def o31 : Obj := tO [sV "__class__" 211]
noncomputable def o33 : Obj := tO [sV "self" 212, sV "what" 213]
noncomputable def o35 : Obj := nO (mem 2 0) "__init__" "SmtError.__init__"
noncomputable def o36 : Obj := cO "__init__" "SmtError.__init__" 208 7 2 3 31 true 32 (.ref 33) (.ref 34) (.ref 35) 214
noncomputable def o37 : Obj := ⟨(.type "function"), none, (fnD (mem 2 0) (S "__init__") (S "SmtError.__init__") [((S "__class__"), 25)] .none .none .none (sV "minismt.errors" 194) none (.ref 36) (.ref 30) 3 0), #[]⟩
noncomputable def o40 : Obj := tO [sV "self" 220]
noncomputable def o42 : Obj := nO (mem 2 1) "told" "SmtError.told"
noncomputable def o43 : Obj := cO "told" "SmtError.told" 217 11 1 3 38 true 39 (.ref 40) (.ref 41) (.ref 42) 221
noncomputable def o44 : Obj := uO (mem 2 1) "told" "SmtError.told" "minismt.errors" 194 43
noncomputable def o45 : Obj := tO [sV "what" 224]
noncomputable def o46 (P : Params) : Obj := ⟨(.type "dict"), none, (.dict [dE P "__module__" 203 (sV "minismt.errors" 194), dE P "__firstlineno__" 207 (.int 5 206), dE P "__init__" 216 (.ref 37), dE P "told" 223 (.ref 44), dE P "__static_attributes__" 225 (.ref 45), dE P "__weakref__" 228 (.ref 48), dE P "__doc__" 229 .none].toArray 4), #[]⟩
noncomputable def o47 : Obj := ⟨(.type "type"), none, (.cls { name := (S "SmtError"), bases := [(.type "Exception")], mro := [(.ref 47), (.type "Exception"), (.type "BaseException"), (.type "object")], ns := 46, qualname := (S "SmtError"), hasDict := true, slotNames := [], subclasses := [(.ref 67)], abstract := false, collection := none, hasDel := false }), [some (.ref 22), none, some (sV "SmtError" 196), some (sV "SmtError" 204), some (.builtin "Exception.__new__"), some (.bool true)].toArray⟩
noncomputable def o48 : Obj := ⟨(.type "getset_descriptor"), none, (.fields [(sV "__weakref__" 227), (.ref 47), (.builtin "ExceptionGroup.__weakref__"), .none].toArray), #[]⟩
noncomputable def o49 : Obj := ⟨(.type "super"), none, (.fields [(.ref 47), (.ref 47), (.ref 47)].toArray), #[]⟩
noncomputable def o50 : Obj := ⟨(.type "builtin_function_or_method"), none, (.fields [(.builtin "object.__init_subclass__"), (.ref 47)].toArray), #[]⟩
noncomputable def o51 : Obj := tO [.ref 47]
noncomputable def o53 (P : Params) : Obj := ⟨(.type "dict"), none, (.dict [dE P "__module__" 241 (sV "minismt.errors" 194), dE P "__qualname__" 243 (sV "SortFault" 242), dE P "__firstlineno__" 245 (.int 13 244), dE P "told" 252 (.ref 64), dE P "__static_attributes__" 253 (.ref 65)].toArray 5), #[]⟩
noncomputable def o55 : Obj := fO [iV 15, iV 4, .ref 63]
noncomputable def o56 : Obj := cO "SortFault" "SortFault" 236 13 0 0 54 false 55 .none .none .none 239
noncomputable def o57 : Obj := ⟨(.type "frame"), none, .plain, [some (.ref 56), some (.ref 3), some (.ref 53), none, some (sV "minismt.errors" 194), none, some (.ref 0)].toArray⟩
noncomputable def o60 : Obj := tO [sV "self" 249]
noncomputable def o62 : Obj := nO (mem 3 0) "told" "SortFault.told"
noncomputable def o63 : Obj := cO "told" "SortFault.told" 246 15 1 3 58 true 59 (.ref 60) (.ref 61) (.ref 62) 250
noncomputable def o64 : Obj := uO (mem 3 0) "told" "SortFault.told" "minismt.errors" 194 63
noncomputable def o66 (P : Params) : Obj := ⟨(.type "dict"), none, (.dict [dE P "__module__" 241 (sV "minismt.errors" 194), dE P "__firstlineno__" 245 (.int 13 244), dE P "told" 252 (.ref 64), dE P "__static_attributes__" 253 (.ref 65), dE P "__doc__" 254 .none].toArray 2), #[]⟩
noncomputable def o67 : Obj := ⟨(.type "type"), none, (.cls { name := (S "SortFault"), bases := [(.ref 47)], mro := [(.ref 67), (.ref 47), (.type "Exception"), (.type "BaseException"), (.type "object")], ns := 66, qualname := (S "SortFault"), hasDict := true, slotNames := [], subclasses := [], abstract := false, collection := none, hasDel := false }), [some (.ref 51), none, some (sV "SortFault" 234), some (sV "SortFault" 242), some (.builtin "Exception.__new__"), some (.bool true)].toArray⟩
noncomputable def o68 : Obj := ⟨(.type "super"), none, (.fields [(.ref 67), (.ref 67), (.ref 67)].toArray), #[]⟩
noncomputable def o69 : Obj := ⟨(.type "builtin_function_or_method"), none, (.fields [(.builtin "object.__init_subclass__"), (.ref 67)].toArray), #[]⟩
noncomputable def o72 : Obj := tO [sV "thing" 262]
noncomputable def o74 : Obj := nO (top 5) "is_number" "is_number"
noncomputable def o75 : Obj := cO "is_number" "is_number" 259 18 1 3 70 true 71 (.ref 72) (.ref 73) (.ref 74) 263
noncomputable def o76 : Obj := uO (top 5) "is_number" "is_number" "minismt.judges" 257 75
noncomputable def o79 : Obj := tO [sV "one" 269, sV "other" 270]
noncomputable def o81 : Obj := nO (top 6) "are_same_sets" "are_same_sets"
noncomputable def o82 : Obj := cO "are_same_sets" "are_same_sets" 266 20 2 3 77 true 78 (.ref 79) (.ref 80) (.ref 81) 271
noncomputable def o83 : Obj := uO (top 6) "are_same_sets" "are_same_sets" "minismt.judges" 257 82
noncomputable def o86 : Obj := tO [sV "some" 277, sV "found" 278, sV "seen" 279, sV "one" 280]
noncomputable def o88 : Obj := nO (top 7) "without_doubles" "without_doubles"
noncomputable def o89 : Obj := cO "without_doubles" "without_doubles" 274 22 1 3 84 true 85 (.ref 86) (.ref 87) (.ref 88) 281
noncomputable def o90 : Obj := uO (top 7) "without_doubles" "without_doubles" "minismt.judges" 257 89
noncomputable def o3v2 (P : Params) : Obj := ⟨(.type "dict"), none, (.dict [dE P "__name__" 165 (sV "minismt.terms" 284), dE P "__doc__" 166 .none, dE P "__package__" 167 .none, dE P "__loader__" 168 (.builtin "__main__.__loader__#opaque"), dE P "__spec__" 169 .none, dE P "__annotations__" 170 (.ref 6), dE P "__builtins__" 171 (.ref 4), dE P "__file__" 173 (sV "/claim/cut.py" 172), dE P "__cached__" 174 .none, dE P "_wall" 193 (.ref 21), dE P "SmtError" 233 (.ref 47), dE P "SortFault" 256 (.ref 67), dE P "is_number" 265 (.ref 76), dE P "are_same_sets" 273 (.ref 83), dE P "without_doubles" 283 (.ref 90), dE P "BOOL" 287 (.int 0 286), dE P "Bank" 565 (.ref 303)].toArray 17), #[]⟩
noncomputable def o12v2 : Obj := fO [iV 1, iV 0, .ref 20, iV 5, iV 0, .ref 28, iV 13, iV 0, .ref 56, iV 18, iV 0, .ref 75, iV 20, iV 0, .ref 82, iV 22, iV 0, .ref 89, iV 33, iV 0, .ref 96]
noncomputable def o93 (P : Params) : Obj := ⟨(.type "dict"), none, (.dict [dE P "__module__" 295 (sV "minismt.terms" 284), dE P "__qualname__" 297 (sV "Bank" 296), dE P "__firstlineno__" 299 (.int 33 298), dE P "__init__" 306 (.ref 104), dE P "sort_name" 314 (.ref 111), dE P "declare_sort" 322 (.ref 118), dE P "width_of" 330 (.ref 125), dE P "is_number_sort" 338 (.ref 132), dE P "is_free_sort" 346 (.ref 139), dE P "declare_fun" 356 (.ref 146), dE P "fresh_fun" 366 (.ref 153), dE P "fresh_const" 375 (.ref 160), dE P "fun_name" 383 (.ref 167), dE P "fun_arg_sorts" 391 (.ref 174), dE P "fun_result" 399 (.ref 181), dE P "fun_count" 406 (.ref 188), dE P "op" 414 (.ref 195), dE P "args" 422 (.ref 202), dE P "sort" 430 (.ref 209), dE P "data" 438 (.ref 216), dE P "width" 446 (.ref 223), dE P "size" 453 (.ref 230), dE P "make" 466 (.ref 237), dE P "find_made" 477 (.ref 244), dE P "is_value" 485 (.ref 251), dE P "want" 495 (.ref 258), dE P "want_all" 506 (.ref 265), dE P "true_term" 513 (.ref 272), dE P "false_term" 520 (.ref 279), dE P "bool_term" 528 (.ref 286), dE P "parts" 536 (.ref 293), dE P "parts_of_all" 544 (.ref 300), dE P "__static_attributes__" 558 (.ref 301)].toArray 33), #[]⟩
noncomputable def o95 : Obj := fO [iV 35, iV 4, .ref 103, iV 50, iV 4, .ref 110, iV 53, iV 4, .ref 117, iV 58, iV 4, .ref 124, iV 61, iV 4, .ref 131, iV 64, iV 4, .ref 138, iV 67, iV 4, .ref 145, iV 73, iV 4, .ref 152, iV 76, iV 4, .ref 159, iV 79, iV 4, .ref 166, iV 82, iV 4, .ref 173, iV 85, iV 4, .ref 180, iV 88, iV 4, .ref 187, iV 91, iV 4, .ref 194, iV 94, iV 4, .ref 201, iV 97, iV 4, .ref 208, iV 100, iV 4, .ref 215, iV 103, iV 4, .ref 222, iV 106, iV 4, .ref 229, iV 109, iV 4, .ref 236, iV 121, iV 4, .ref 243, iV 124, iV 4, .ref 250, iV 127, iV 4, .ref 257, iV 131, iV 4, .ref 264, iV 135, iV 4, .ref 271, iV 138, iV 4, .ref 278, iV 141, iV 4, .ref 285, iV 144, iV 4, .ref 292, iV 147, iV 4, .ref 299]
noncomputable def o96 : Obj := cO "Bank" "Bank" 290 33 0 0 94 false 95 .none .none .none 293
noncomputable def o97 : Obj := ⟨(.type "frame"), none, .plain, [some (.ref 96), some (.ref 3), some (.ref 93), none, some (sV "minismt.terms" 284), none, some (.ref 0)].toArray⟩
noncomputable def o100 : Obj := tO [sV "self" 303]
noncomputable def o102 : Obj := nO (mem 10 0) "__init__" "Bank.__init__"
noncomputable def o103 : Obj := cO "__init__" "Bank.__init__" 300 35 1 3 98 true 99 (.ref 100) (.ref 101) (.ref 102) 304
noncomputable def o104 : Obj := uO (mem 10 0) "__init__" "Bank.__init__" "minismt.terms" 284 103
noncomputable def o107 : Obj := tO [sV "self" 310, sV "s" 311]
noncomputable def o109 : Obj := nO (mem 10 1) "sort_name" "Bank.sort_name"
noncomputable def o110 : Obj := cO "sort_name" "Bank.sort_name" 307 50 2 3 105 true 106 (.ref 107) (.ref 108) (.ref 109) 312
noncomputable def o111 : Obj := uO (mem 10 1) "sort_name" "Bank.sort_name" "minismt.terms" 284 110
noncomputable def o114 : Obj := tO [sV "self" 318, sV "name" 319]
noncomputable def o116 : Obj := nO (mem 10 2) "declare_sort" "Bank.declare_sort"
noncomputable def o117 : Obj := cO "declare_sort" "Bank.declare_sort" 315 53 2 3 112 true 113 (.ref 114) (.ref 115) (.ref 116) 320
noncomputable def o118 : Obj := uO (mem 10 2) "declare_sort" "Bank.declare_sort" "minismt.terms" 284 117
noncomputable def o121 : Obj := tO [sV "self" 326, sV "s" 327]
noncomputable def o123 : Obj := nO (mem 10 3) "width_of" "Bank.width_of"
noncomputable def o124 : Obj := cO "width_of" "Bank.width_of" 323 58 2 3 119 true 120 (.ref 121) (.ref 122) (.ref 123) 328
noncomputable def o125 : Obj := uO (mem 10 3) "width_of" "Bank.width_of" "minismt.terms" 284 124
noncomputable def o128 : Obj := tO [sV "self" 334, sV "s" 335]
noncomputable def o130 : Obj := nO (mem 10 4) "is_number_sort" "Bank.is_number_sort"
noncomputable def o131 : Obj := cO "is_number_sort" "Bank.is_number_sort" 331 61 2 3 126 true 127 (.ref 128) (.ref 129) (.ref 130) 336
noncomputable def o132 : Obj := uO (mem 10 4) "is_number_sort" "Bank.is_number_sort" "minismt.terms" 284 131
noncomputable def o135 : Obj := tO [sV "self" 342, sV "s" 343]
noncomputable def o137 : Obj := nO (mem 10 5) "is_free_sort" "Bank.is_free_sort"
noncomputable def o138 : Obj := cO "is_free_sort" "Bank.is_free_sort" 339 64 2 3 133 true 134 (.ref 135) (.ref 136) (.ref 137) 344
noncomputable def o139 : Obj := uO (mem 10 5) "is_free_sort" "Bank.is_free_sort" "minismt.terms" 284 138
noncomputable def o142 : Obj := tO [sV "self" 350, sV "name" 351, sV "arg_sorts" 352, sV "result" 353]
noncomputable def o144 : Obj := nO (mem 10 6) "declare_fun" "Bank.declare_fun"
noncomputable def o145 : Obj := cO "declare_fun" "Bank.declare_fun" 347 67 4 3 140 true 141 (.ref 142) (.ref 143) (.ref 144) 354
noncomputable def o146 : Obj := uO (mem 10 6) "declare_fun" "Bank.declare_fun" "minismt.terms" 284 145
noncomputable def o149 : Obj := tO [sV "self" 360, sV "stem" 361, sV "arg_sorts" 362, sV "result" 363]
noncomputable def o151 : Obj := nO (mem 10 7) "fresh_fun" "Bank.fresh_fun"
noncomputable def o152 : Obj := cO "fresh_fun" "Bank.fresh_fun" 357 73 4 3 147 true 148 (.ref 149) (.ref 150) (.ref 151) 364
noncomputable def o153 : Obj := uO (mem 10 7) "fresh_fun" "Bank.fresh_fun" "minismt.terms" 284 152
noncomputable def o156 : Obj := tO [sV "self" 370, sV "name" 371, sV "s" 372]
noncomputable def o158 : Obj := nO (mem 10 8) "fresh_const" "Bank.fresh_const"
noncomputable def o159 : Obj := cO "fresh_const" "Bank.fresh_const" 367 76 3 3 154 true 155 (.ref 156) (.ref 157) (.ref 158) 373
noncomputable def o160 : Obj := uO (mem 10 8) "fresh_const" "Bank.fresh_const" "minismt.terms" 284 159
noncomputable def o163 : Obj := tO [sV "self" 379, sV "f" 380]
noncomputable def o165 : Obj := nO (mem 10 9) "fun_name" "Bank.fun_name"
noncomputable def o166 : Obj := cO "fun_name" "Bank.fun_name" 376 79 2 3 161 true 162 (.ref 163) (.ref 164) (.ref 165) 381
noncomputable def o167 : Obj := uO (mem 10 9) "fun_name" "Bank.fun_name" "minismt.terms" 284 166
noncomputable def o170 : Obj := tO [sV "self" 387, sV "f" 388]
noncomputable def o172 : Obj := nO (mem 10 10) "fun_arg_sorts" "Bank.fun_arg_sorts"
noncomputable def o173 : Obj := cO "fun_arg_sorts" "Bank.fun_arg_sorts" 384 82 2 3 168 true 169 (.ref 170) (.ref 171) (.ref 172) 389
noncomputable def o174 : Obj := uO (mem 10 10) "fun_arg_sorts" "Bank.fun_arg_sorts" "minismt.terms" 284 173
noncomputable def o177 : Obj := tO [sV "self" 395, sV "f" 396]
noncomputable def o179 : Obj := nO (mem 10 11) "fun_result" "Bank.fun_result"
noncomputable def o180 : Obj := cO "fun_result" "Bank.fun_result" 392 85 2 3 175 true 176 (.ref 177) (.ref 178) (.ref 179) 397
noncomputable def o181 : Obj := uO (mem 10 11) "fun_result" "Bank.fun_result" "minismt.terms" 284 180
noncomputable def o184 : Obj := tO [sV "self" 403]
noncomputable def o186 : Obj := nO (mem 10 12) "fun_count" "Bank.fun_count"
noncomputable def o187 : Obj := cO "fun_count" "Bank.fun_count" 400 88 1 3 182 true 183 (.ref 184) (.ref 185) (.ref 186) 404
noncomputable def o188 : Obj := uO (mem 10 12) "fun_count" "Bank.fun_count" "minismt.terms" 284 187
noncomputable def o191 : Obj := tO [sV "self" 410, sV "t" 411]
noncomputable def o193 : Obj := nO (mem 10 13) "op" "Bank.op"
noncomputable def o194 : Obj := cO "op" "Bank.op" 407 91 2 3 189 true 190 (.ref 191) (.ref 192) (.ref 193) 412
noncomputable def o195 : Obj := uO (mem 10 13) "op" "Bank.op" "minismt.terms" 284 194
noncomputable def o198 : Obj := tO [sV "self" 418, sV "t" 419]
noncomputable def o200 : Obj := nO (mem 10 14) "args" "Bank.args"
noncomputable def o201 : Obj := cO "args" "Bank.args" 415 94 2 3 196 true 197 (.ref 198) (.ref 199) (.ref 200) 420
noncomputable def o202 : Obj := uO (mem 10 14) "args" "Bank.args" "minismt.terms" 284 201
noncomputable def o205 : Obj := tO [sV "self" 426, sV "t" 427]
noncomputable def o207 : Obj := nO (mem 10 15) "sort" "Bank.sort"
noncomputable def o208 : Obj := cO "sort" "Bank.sort" 423 97 2 3 203 true 204 (.ref 205) (.ref 206) (.ref 207) 428
noncomputable def o209 : Obj := uO (mem 10 15) "sort" "Bank.sort" "minismt.terms" 284 208
noncomputable def o212 : Obj := tO [sV "self" 434, sV "t" 435]
noncomputable def o214 : Obj := nO (mem 10 16) "data" "Bank.data"
noncomputable def o215 : Obj := cO "data" "Bank.data" 431 100 2 3 210 true 211 (.ref 212) (.ref 213) (.ref 214) 436
noncomputable def o216 : Obj := uO (mem 10 16) "data" "Bank.data" "minismt.terms" 284 215
noncomputable def o219 : Obj := tO [sV "self" 442, sV "t" 443]
noncomputable def o221 : Obj := nO (mem 10 17) "width" "Bank.width"
noncomputable def o222 : Obj := cO "width" "Bank.width" 439 103 2 3 217 true 218 (.ref 219) (.ref 220) (.ref 221) 444
noncomputable def o223 : Obj := uO (mem 10 17) "width" "Bank.width" "minismt.terms" 284 222
noncomputable def o226 : Obj := tO [sV "self" 450]
noncomputable def o228 : Obj := nO (mem 10 18) "size" "Bank.size"
noncomputable def o229 : Obj := cO "size" "Bank.size" 447 106 1 3 224 true 225 (.ref 226) (.ref 227) (.ref 228) 451
noncomputable def o230 : Obj := uO (mem 10 18) "size" "Bank.size" "minismt.terms" 284 229
noncomputable def o233 : Obj := tO [sV "self" 457, sV "op" 458, sV "args" 459, sV "sort" 460, sV "data" 461, sV "key" 462, sV "found" 463]
noncomputable def o235 : Obj := nO (mem 10 19) "make" "Bank.make"
noncomputable def o236 : Obj := cO "make" "Bank.make" 454 109 5 3 231 true 232 (.ref 233) (.ref 234) (.ref 235) 464
noncomputable def o237 : Obj := uO (mem 10 19) "make" "Bank.make" "minismt.terms" 284 236
noncomputable def o240 : Obj := tO [sV "self" 470, sV "op" 471, sV "args" 472, sV "sort" 473, sV "data" 474]
noncomputable def o242 : Obj := nO (mem 10 20) "find_made" "Bank.find_made"
noncomputable def o243 : Obj := cO "find_made" "Bank.find_made" 467 121 5 3 238 true 239 (.ref 240) (.ref 241) (.ref 242) 475
noncomputable def o244 : Obj := uO (mem 10 20) "find_made" "Bank.find_made" "minismt.terms" 284 243
noncomputable def o247 : Obj := tO [sV "self" 481, sV "t" 482]
noncomputable def o249 : Obj := nO (mem 10 21) "is_value" "Bank.is_value"
noncomputable def o250 : Obj := cO "is_value" "Bank.is_value" 478 124 2 3 245 true 246 (.ref 247) (.ref 248) (.ref 249) 483
noncomputable def o251 : Obj := uO (mem 10 21) "is_value" "Bank.is_value" "minismt.terms" 284 250
noncomputable def o254 : Obj := tO [sV "self" 489, sV "t" 490, sV "s" 491, sV "where" 492]
noncomputable def o256 : Obj := nO (mem 10 22) "want" "Bank.want"
noncomputable def o257 : Obj := cO "want" "Bank.want" 486 127 4 3 252 true 253 (.ref 254) (.ref 255) (.ref 256) 493
noncomputable def o258 : Obj := uO (mem 10 22) "want" "Bank.want" "minismt.terms" 284 257
noncomputable def o261 : Obj := tO [sV "self" 499, sV "some" 500, sV "s" 501, sV "where" 502, sV "t" 503]
noncomputable def o263 : Obj := nO (mem 10 23) "want_all" "Bank.want_all"
noncomputable def o264 : Obj := cO "want_all" "Bank.want_all" 496 131 4 3 259 true 260 (.ref 261) (.ref 262) (.ref 263) 504
noncomputable def o265 : Obj := uO (mem 10 23) "want_all" "Bank.want_all" "minismt.terms" 284 264
noncomputable def o268 : Obj := tO [sV "self" 510]
noncomputable def o270 : Obj := nO (mem 10 24) "true_term" "Bank.true_term"
noncomputable def o271 : Obj := cO "true_term" "Bank.true_term" 507 135 1 3 266 true 267 (.ref 268) (.ref 269) (.ref 270) 511
noncomputable def o272 : Obj := uO (mem 10 24) "true_term" "Bank.true_term" "minismt.terms" 284 271
noncomputable def o275 : Obj := tO [sV "self" 517]
noncomputable def o277 : Obj := nO (mem 10 25) "false_term" "Bank.false_term"
noncomputable def o278 : Obj := cO "false_term" "Bank.false_term" 514 138 1 3 273 true 274 (.ref 275) (.ref 276) (.ref 277) 518
noncomputable def o279 : Obj := uO (mem 10 25) "false_term" "Bank.false_term" "minismt.terms" 284 278
noncomputable def o282 : Obj := tO [sV "self" 524, sV "holds" 525]
noncomputable def o284 : Obj := nO (mem 10 26) "bool_term" "Bank.bool_term"
noncomputable def o285 : Obj := cO "bool_term" "Bank.bool_term" 521 141 2 3 280 true 281 (.ref 282) (.ref 283) (.ref 284) 526
noncomputable def o286 : Obj := uO (mem 10 26) "bool_term" "Bank.bool_term" "minismt.terms" 284 285
noncomputable def o289 : Obj := tO [sV "self" 532, sV "t" 533]
noncomputable def o291 : Obj := nO (mem 10 27) "parts" "Bank.parts"
noncomputable def o292 : Obj := cO "parts" "Bank.parts" 529 144 2 3 287 true 288 (.ref 289) (.ref 290) (.ref 291) 534
noncomputable def o293 : Obj := uO (mem 10 27) "parts" "Bank.parts" "minismt.terms" 284 292
noncomputable def o296 : Obj := tO [sV "self" 540, sV "some" 541]
noncomputable def o298 : Obj := nO (mem 10 28) "parts_of_all" "Bank.parts_of_all"
noncomputable def o299 : Obj := cO "parts_of_all" "Bank.parts_of_all" 537 147 2 3 294 true 295 (.ref 296) (.ref 297) (.ref 298) 542
noncomputable def o300 : Obj := uO (mem 10 28) "parts_of_all" "Bank.parts_of_all" "minismt.terms" 284 299
noncomputable def o301 : Obj := tO [sV "false_number" 545, sV "fresh_count" 546, sV "fun_args" 547, sV "fun_names" 548, sV "fun_results" 549, sV "numbers" 550, sV "sort_names" 551, sV "sort_widths" 552, sV "term_args" 553, sV "term_datas" 554, sV "term_ops" 555, sV "term_sorts" 556, sV "true_number" 557]
noncomputable def o302 (P : Params) : Obj := ⟨(.type "dict"), none, (.dict [dE P "__module__" 295 (sV "minismt.terms" 284), dE P "__firstlineno__" 299 (.int 33 298), dE P "__init__" 306 (.ref 104), dE P "sort_name" 314 (.ref 111), dE P "declare_sort" 322 (.ref 118), dE P "width_of" 330 (.ref 125), dE P "is_number_sort" 338 (.ref 132), dE P "is_free_sort" 346 (.ref 139), dE P "declare_fun" 356 (.ref 146), dE P "fresh_fun" 366 (.ref 153), dE P "fresh_const" 375 (.ref 160), dE P "fun_name" 383 (.ref 167), dE P "fun_arg_sorts" 391 (.ref 174), dE P "fun_result" 399 (.ref 181), dE P "fun_count" 406 (.ref 188), dE P "op" 414 (.ref 195), dE P "args" 422 (.ref 202), dE P "sort" 430 (.ref 209), dE P "data" 438 (.ref 216), dE P "width" 446 (.ref 223), dE P "size" 453 (.ref 230), dE P "make" 466 (.ref 237), dE P "find_made" 477 (.ref 244), dE P "is_value" 485 (.ref 251), dE P "want" 495 (.ref 258), dE P "want_all" 506 (.ref 265), dE P "true_term" 513 (.ref 272), dE P "false_term" 520 (.ref 279), dE P "bool_term" 528 (.ref 286), dE P "parts" 536 (.ref 293), dE P "parts_of_all" 544 (.ref 300), dE P "__static_attributes__" 558 (.ref 301), dE P "__dict__" 560 (.ref 304), dE P "__weakref__" 562 (.ref 305), dE P "__doc__" 563 .none].toArray 4), #[]⟩
noncomputable def o303 : Obj := ⟨(.type "type"), none, (.cls { name := (S "Bank"), bases := [(.type "object")], mro := [(.ref 303), (.type "object")], ns := 302, qualname := (S "Bank"), hasDict := true, slotNames := [], subclasses := [], abstract := false, collection := none, hasDel := false }), [none, none, some (sV "Bank" 288), some (sV "Bank" 296), some (.builtin "object.__new__"), some (.bool true)].toArray⟩
noncomputable def o304 : Obj := ⟨(.type "getset_descriptor"), none, (.fields [(sV "__dict__" 559), (.ref 303), (.builtin "function.__dict__"), (.builtin "function.__dict__#set")].toArray), #[]⟩
noncomputable def o305 : Obj := ⟨(.type "getset_descriptor"), none, (.fields [(sV "__weakref__" 561), (.ref 303), (.builtin "ExceptionGroup.__weakref__"), .none].toArray), #[]⟩
noncomputable def o306 : Obj := ⟨(.type "super"), none, (.fields [(.ref 303), (.ref 303), (.ref 303)].toArray), #[]⟩
noncomputable def o307 : Obj := ⟨(.type "builtin_function_or_method"), none, (.fields [(.builtin "object.__init_subclass__"), (.ref 303)].toArray), #[]⟩
noncomputable def o3v3 (P : Params) : Obj := ⟨(.type "dict"), none, (.dict [dE P "__name__" 165 (sV "minismt.terms" 284), dE P "__doc__" 166 .none, dE P "__package__" 167 .none, dE P "__loader__" 168 (.builtin "__main__.__loader__#opaque"), dE P "__spec__" 169 .none, dE P "__annotations__" 170 (.ref 6), dE P "__builtins__" 171 (.ref 4), dE P "__file__" 173 (sV "/claim/cut.py" 172), dE P "__cached__" 174 .none, dE P "_wall" 193 (.ref 21), dE P "SmtError" 233 (.ref 47), dE P "SortFault" 256 (.ref 67), dE P "is_number" 265 (.ref 76), dE P "are_same_sets" 273 (.ref 83), dE P "without_doubles" 283 (.ref 90), dE P "BOOL" 287 (.int 0 286), dE P "Bank" 565 (.ref 303), dE P "BoolBank" 698 (.ref 408)].toArray 18), #[]⟩
noncomputable def o12v3 : Obj := fO [iV 1, iV 0, .ref 20, iV 5, iV 0, .ref 28, iV 13, iV 0, .ref 56, iV 18, iV 0, .ref 75, iV 20, iV 0, .ref 82, iV 22, iV 0, .ref 89, iV 33, iV 0, .ref 96, iV 149, iV 0, .ref 313]
noncomputable def o303v1 : Obj := ⟨(.type "type"), none, (.cls { name := (S "Bank"), bases := [(.type "object")], mro := [(.ref 303), (.type "object")], ns := 302, qualname := (S "Bank"), hasDict := true, slotNames := [], subclasses := [(.ref 408)], abstract := false, collection := none, hasDel := false }), [none, none, some (sV "Bank" 288), some (sV "Bank" 296), some (.builtin "object.__new__"), some (.bool true)].toArray⟩
noncomputable def o308 : Obj := tO [.ref 303]
noncomputable def o310 (P : Params) : Obj := ⟨(.type "dict"), none, (.dict [dE P "__module__" 573 (sV "minismt.terms" 284), dE P "__qualname__" 575 (sV "BoolBank" 574), dE P "__firstlineno__" 577 (.int 149 576), dE P "not_of" 585 (.ref 321), dE P "and_of" 593 (.ref 328), dE P "or_of" 601 (.ref 335), dE P "xor_of" 610 (.ref 342), dE P "implies_of" 619 (.ref 349), dE P "iff" 628 (.ref 356), dE P "eq" 637 (.ref 363), dE P "distinct" 645 (.ref 370), dE P "ite" 655 (.ref 377), dE P "app" 667 (.ref 384), dE P "folded" 676 (.ref 391), dE P "with_args" 685 (.ref 398), dE P "replaced" 694 (.ref 405), dE P "__static_attributes__" 695 (.ref 406)].toArray 17), #[]⟩
noncomputable def o312 : Obj := fO [iV 151, iV 4, .ref 320, iV 161, iV 4, .ref 327, iV 167, iV 4, .ref 334, iV 173, iV 4, .ref 341, iV 177, iV 4, .ref 348, iV 181, iV 4, .ref 355, iV 184, iV 4, .ref 362, iV 190, iV 4, .ref 369, iV 196, iV 4, .ref 376, iV 201, iV 4, .ref 383, iV 209, iV 4, .ref 390, iV 212, iV 4, .ref 397, iV 215, iV 4, .ref 404]
noncomputable def o313 : Obj := cO "BoolBank" "BoolBank" 568 149 0 0 311 false 312 .none .none .none 571
noncomputable def o314 : Obj := ⟨(.type "frame"), none, .plain, [some (.ref 313), some (.ref 3), some (.ref 310), none, some (sV "minismt.terms" 284), none, some (.ref 0)].toArray⟩
noncomputable def o317 : Obj := tO [sV "self" 581, sV "t" 582]
noncomputable def o319 : Obj := nO (mem 11 0) "not_of" "BoolBank.not_of"
noncomputable def o320 : Obj := cO "not_of" "BoolBank.not_of" 578 151 2 3 315 true 316 (.ref 317) (.ref 318) (.ref 319) 583
noncomputable def o321 : Obj := uO (mem 11 0) "not_of" "BoolBank.not_of" "minismt.terms" 284 320
noncomputable def o324 : Obj := tO [sV "self" 589, sV "some" 590]
noncomputable def o326 : Obj := nO (mem 11 1) "and_of" "BoolBank.and_of"
noncomputable def o327 : Obj := cO "and_of" "BoolBank.and_of" 586 161 2 3 322 true 323 (.ref 324) (.ref 325) (.ref 326) 591
noncomputable def o328 : Obj := uO (mem 11 1) "and_of" "BoolBank.and_of" "minismt.terms" 284 327
noncomputable def o331 : Obj := tO [sV "self" 597, sV "some" 598]
noncomputable def o333 : Obj := nO (mem 11 2) "or_of" "BoolBank.or_of"
noncomputable def o334 : Obj := cO "or_of" "BoolBank.or_of" 594 167 2 3 329 true 330 (.ref 331) (.ref 332) (.ref 333) 599
noncomputable def o335 : Obj := uO (mem 11 2) "or_of" "BoolBank.or_of" "minismt.terms" 284 334
noncomputable def o338 : Obj := tO [sV "self" 605, sV "a" 606, sV "b" 607]
noncomputable def o340 : Obj := nO (mem 11 3) "xor_of" "BoolBank.xor_of"
noncomputable def o341 : Obj := cO "xor_of" "BoolBank.xor_of" 602 173 3 3 336 true 337 (.ref 338) (.ref 339) (.ref 340) 608
noncomputable def o342 : Obj := uO (mem 11 3) "xor_of" "BoolBank.xor_of" "minismt.terms" 284 341
noncomputable def o345 : Obj := tO [sV "self" 614, sV "a" 615, sV "b" 616]
noncomputable def o347 : Obj := nO (mem 11 4) "implies_of" "BoolBank.implies_of"
noncomputable def o348 : Obj := cO "implies_of" "BoolBank.implies_of" 611 177 3 3 343 true 344 (.ref 345) (.ref 346) (.ref 347) 617
noncomputable def o349 : Obj := uO (mem 11 4) "implies_of" "BoolBank.implies_of" "minismt.terms" 284 348
noncomputable def o352 : Obj := tO [sV "self" 623, sV "a" 624, sV "b" 625]
noncomputable def o354 : Obj := nO (mem 11 5) "iff" "BoolBank.iff"
noncomputable def o355 : Obj := cO "iff" "BoolBank.iff" 620 181 3 3 350 true 351 (.ref 352) (.ref 353) (.ref 354) 626
noncomputable def o356 : Obj := uO (mem 11 5) "iff" "BoolBank.iff" "minismt.terms" 284 355
noncomputable def o359 : Obj := tO [sV "self" 632, sV "a" 633, sV "b" 634]
noncomputable def o361 : Obj := nO (mem 11 6) "eq" "BoolBank.eq"
noncomputable def o362 : Obj := cO "eq" "BoolBank.eq" 629 184 3 3 357 true 358 (.ref 359) (.ref 360) (.ref 361) 635
noncomputable def o363 : Obj := uO (mem 11 6) "eq" "BoolBank.eq" "minismt.terms" 284 362
noncomputable def o366 : Obj := tO [sV "self" 641, sV "some" 642]
noncomputable def o368 : Obj := nO (mem 11 7) "distinct" "BoolBank.distinct"
noncomputable def o369 : Obj := cO "distinct" "BoolBank.distinct" 638 190 2 3 364 true 365 (.ref 366) (.ref 367) (.ref 368) 643
noncomputable def o370 : Obj := uO (mem 11 7) "distinct" "BoolBank.distinct" "minismt.terms" 284 369
noncomputable def o373 : Obj := tO [sV "self" 649, sV "c" 650, sV "a" 651, sV "b" 652]
noncomputable def o375 : Obj := nO (mem 11 8) "ite" "BoolBank.ite"
noncomputable def o376 : Obj := cO "ite" "BoolBank.ite" 646 196 4 3 371 true 372 (.ref 373) (.ref 374) (.ref 375) 653
noncomputable def o377 : Obj := uO (mem 11 8) "ite" "BoolBank.ite" "minismt.terms" 284 376
noncomputable def o380 : Obj := tO [sV "self" 659, sV "f" 660, sV "some" 661, sV "sorts" 662, sV "t" 663, sV "s" 664]
noncomputable def o382 : Obj := nO (mem 11 9) "app" "BoolBank.app"
noncomputable def o383 : Obj := cO "app" "BoolBank.app" 656 201 3 3 378 true 379 (.ref 380) (.ref 381) (.ref 382) 665
noncomputable def o384 : Obj := uO (mem 11 9) "app" "BoolBank.app" "minismt.terms" 284 383
noncomputable def o387 : Obj := tO [sV "self" 671, sV "t" 672, sV "args" 673]
noncomputable def o389 : Obj := nO (mem 11 10) "folded" "BoolBank.folded"
noncomputable def o390 : Obj := cO "folded" "BoolBank.folded" 668 209 3 3 385 true 386 (.ref 387) (.ref 388) (.ref 389) 674
noncomputable def o391 : Obj := uO (mem 11 10) "folded" "BoolBank.folded" "minismt.terms" 284 390
noncomputable def o394 : Obj := tO [sV "self" 680, sV "t" 681, sV "args" 682]
noncomputable def o396 : Obj := nO (mem 11 11) "with_args" "BoolBank.with_args"
noncomputable def o397 : Obj := cO "with_args" "BoolBank.with_args" 677 212 3 3 392 true 393 (.ref 394) (.ref 395) (.ref 396) 683
noncomputable def o398 : Obj := uO (mem 11 11) "with_args" "BoolBank.with_args" "minismt.terms" 284 397
noncomputable def o401 : Obj := tO [sV "self" 689, sV "t" 690, sV "table" 691]
noncomputable def o403 : Obj := nO (mem 11 12) "replaced" "BoolBank.replaced"
noncomputable def o404 : Obj := cO "replaced" "BoolBank.replaced" 686 215 3 3 399 true 400 (.ref 401) (.ref 402) (.ref 403) 692
noncomputable def o405 : Obj := uO (mem 11 12) "replaced" "BoolBank.replaced" "minismt.terms" 284 404
noncomputable def o407 (P : Params) : Obj := ⟨(.type "dict"), none, (.dict [dE P "__module__" 573 (sV "minismt.terms" 284), dE P "__firstlineno__" 577 (.int 149 576), dE P "not_of" 585 (.ref 321), dE P "and_of" 593 (.ref 328), dE P "or_of" 601 (.ref 335), dE P "xor_of" 610 (.ref 342), dE P "implies_of" 619 (.ref 349), dE P "iff" 628 (.ref 356), dE P "eq" 637 (.ref 363), dE P "distinct" 645 (.ref 370), dE P "ite" 655 (.ref 377), dE P "app" 667 (.ref 384), dE P "folded" 676 (.ref 391), dE P "with_args" 685 (.ref 398), dE P "replaced" 694 (.ref 405), dE P "__static_attributes__" 695 (.ref 406), dE P "__doc__" 696 .none].toArray 2), #[]⟩
noncomputable def o408 : Obj := ⟨(.type "type"), none, (.cls { name := (S "BoolBank"), bases := [(.ref 303)], mro := [(.ref 408), (.ref 303), (.type "object")], ns := 407, qualname := (S "BoolBank"), hasDict := true, slotNames := [], subclasses := [], abstract := false, collection := none, hasDel := false }), [some (.ref 308), none, some (sV "BoolBank" 566), some (sV "BoolBank" 574), some (.builtin "object.__new__"), some (.bool true)].toArray⟩
noncomputable def o409 : Obj := ⟨(.type "super"), none, (.fields [(.ref 408), (.ref 408), (.ref 408)].toArray), #[]⟩
noncomputable def o410 : Obj := ⟨(.type "builtin_function_or_method"), none, (.fields [(.builtin "object.__init_subclass__"), (.ref 408)].toArray), #[]⟩
noncomputable def o3v4 (P : Params) : Obj := ⟨(.type "dict"), none, (.dict [dE P "__name__" 165 (sV "minismt.checker" 699), dE P "__doc__" 166 .none, dE P "__package__" 167 .none, dE P "__loader__" 168 (.builtin "__main__.__loader__#opaque"), dE P "__spec__" 169 .none, dE P "__annotations__" 170 (.ref 6), dE P "__builtins__" 171 (.ref 4), dE P "__file__" 173 (sV "/claim/cut.py" 172), dE P "__cached__" 174 .none, dE P "_wall" 193 (.ref 21), dE P "SmtError" 233 (.ref 47), dE P "SortFault" 256 (.ref 67), dE P "is_number" 265 (.ref 76), dE P "are_same_sets" 273 (.ref 83), dE P "without_doubles" 283 (.ref 90), dE P "BOOL" 287 (.int 0 286), dE P "Bank" 565 (.ref 303), dE P "BoolBank" 698 (.ref 408), dE P "FORMS" 710 (.ref 411), dE P "StepChecker" 890 (.ref 543)].toArray 20), #[]⟩
noncomputable def o12v4 : Obj := fO [iV 1, iV 0, .ref 20, iV 5, iV 0, .ref 28, iV 13, iV 0, .ref 56, iV 18, iV 0, .ref 75, iV 20, iV 0, .ref 82, iV 22, iV 0, .ref 89, iV 33, iV 0, .ref 96, iV 149, iV 0, .ref 313, iV 219, iV 0, .ref 417]
noncomputable def o411 : Obj := tO [sV "true" 701, sV "false" 702, sV "and" 703, sV "or" 704, sV "xor" 705, sV "=>" 706, sV "=" 707, sV "ite" 708, sV "distinct" 709]
noncomputable def o414 (P : Params) : Obj := ⟨(.type "dict"), none, (.dict [dE P "__module__" 718 (sV "minismt.checker" 699), dE P "__qualname__" 720 (sV "StepChecker" 719), dE P "__firstlineno__" 722 (.int 219 721), dE P "__init__" 733 (.ref 425), dE P "look" 742 (.ref 432), dE P "check" 750 (.ref 439), dE P "is_end" 758 (.ref 446), dE P "fault_of" 767 (.ref 453), dE P "alone_fault" 778 (.ref 460), dE P "is_clause" 786 (.ref 467), dE P "is_term" 794 (.ref 474), dE P "is_bool_term" 802 (.ref 481), dE P "signed" 811 (.ref 488), dE P "signed_literal" 819 (.ref 495), dE P "signed_clause" 827 (.ref 502), dE P "equality" 836 (.ref 509), dE P "resolve_fault" 847 (.ref 516), dE P "input_fault" 856 (.ref 523), dE P "define_fault" 866 (.ref 530), dE P "definition" 872 (.ref 535), dE P "distinct_definition" 878 (.ref 540), dE P "__static_attributes__" 883 (.ref 541)].toArray 22), #[]⟩
noncomputable def o416 : Obj := fO [iV 221, iV 4, .ref 424, iV 227, iV 4, .ref 431, iV 230, iV 4, .ref 438, iV 233, iV 4, .ref 445, iV 236, iV 4, .ref 452, iV 239, iV 4, .ref 459, iV 242, iV 4, .ref 466, iV 245, iV 4, .ref 473, iV 248, iV 4, .ref 480, iV 251, iV 4, .ref 487, iV 258, iV 4, .ref 494, iV 261, iV 4, .ref 501, iV 264, iV 4, .ref 508, iV 269, iV 4, .ref 515, iV 272, iV 4, .ref 522, iV 275, iV 4, .ref 529, iV 284, iV 4, .ref 534, iV 309, iV 4, .ref 539]
noncomputable def o417 : Obj := cO "StepChecker" "StepChecker" 713 219 0 0 415 false 416 .none .none .none 716
noncomputable def o418 : Obj := ⟨(.type "frame"), none, .plain, [some (.ref 417), some (.ref 3), some (.ref 414), none, some (sV "minismt.checker" 699), none, some (.ref 0)].toArray⟩
noncomputable def o421 : Obj := tO [sV "self" 726, sV "bank" 727, sV "names" 728, sV "assertions" 729, sV "assumptions" 730]
noncomputable def o423 : Obj := nO (mem 14 0) "__init__" "StepChecker.__init__"
noncomputable def o424 : Obj := cO "__init__" "StepChecker.__init__" 723 221 5 3 419 true 420 (.ref 421) (.ref 422) (.ref 423) 731
noncomputable def o425 : Obj := uO (mem 14 0) "__init__" "StepChecker.__init__" "minismt.checker" 699 424
noncomputable def o428 : Obj := tO [sV "self" 737, sV "proof" 738, sV "last" 739]
noncomputable def o430 : Obj := nO (mem 14 1) "look" "StepChecker.look"
noncomputable def o431 : Obj := cO "look" "StepChecker.look" 734 227 3 3 426 true 427 (.ref 428) (.ref 429) (.ref 430) 740
noncomputable def o432 : Obj := uO (mem 14 1) "look" "StepChecker.look" "minismt.checker" 699 431
noncomputable def o435 : Obj := tO [sV "self" 746, sV "proof" 747]
noncomputable def o437 : Obj := nO (mem 14 2) "check" "StepChecker.check"
noncomputable def o438 : Obj := cO "check" "StepChecker.check" 743 230 2 3 433 true 434 (.ref 435) (.ref 436) (.ref 437) 748
noncomputable def o439 : Obj := uO (mem 14 2) "check" "StepChecker.check" "minismt.checker" 699 438
noncomputable def o442 : Obj := tO [sV "self" 754, sV "clause" 755]
noncomputable def o444 : Obj := nO (mem 14 3) "is_end" "StepChecker.is_end"
noncomputable def o445 : Obj := cO "is_end" "StepChecker.is_end" 751 233 2 3 440 true 441 (.ref 442) (.ref 443) (.ref 444) 756
noncomputable def o446 : Obj := uO (mem 14 3) "is_end" "StepChecker.is_end" "minismt.checker" 699 445
noncomputable def o449 : Obj := tO [sV "self" 762, sV "steps" 763, sV "number" 764]
noncomputable def o451 : Obj := nO (mem 14 4) "fault_of" "StepChecker.fault_of"
noncomputable def o452 : Obj := cO "fault_of" "StepChecker.fault_of" 759 236 3 3 447 true 448 (.ref 449) (.ref 450) (.ref 451) 765
noncomputable def o453 : Obj := uO (mem 14 4) "fault_of" "StepChecker.fault_of" "minismt.checker" 699 452
noncomputable def o456 : Obj := tO [sV "self" 771, sV "rule" 772, sV "clause" 773, sV "some" 774, sV "note" 775]
noncomputable def o458 : Obj := nO (mem 14 5) "alone_fault" "StepChecker.alone_fault"
noncomputable def o459 : Obj := cO "alone_fault" "StepChecker.alone_fault" 768 239 5 3 454 true 455 (.ref 456) (.ref 457) (.ref 458) 776
noncomputable def o460 : Obj := uO (mem 14 5) "alone_fault" "StepChecker.alone_fault" "minismt.checker" 699 459
noncomputable def o463 : Obj := tO [sV "self" 782, sV "clause" 783]
noncomputable def o465 : Obj := nO (mem 14 6) "is_clause" "StepChecker.is_clause"
noncomputable def o466 : Obj := cO "is_clause" "StepChecker.is_clause" 779 242 2 3 461 true 462 (.ref 463) (.ref 464) (.ref 465) 784
noncomputable def o467 : Obj := uO (mem 14 6) "is_clause" "StepChecker.is_clause" "minismt.checker" 699 466
noncomputable def o470 : Obj := tO [sV "self" 790, sV "t" 791]
noncomputable def o472 : Obj := nO (mem 14 7) "is_term" "StepChecker.is_term"
noncomputable def o473 : Obj := cO "is_term" "StepChecker.is_term" 787 245 2 3 468 true 469 (.ref 470) (.ref 471) (.ref 472) 792
noncomputable def o474 : Obj := uO (mem 14 7) "is_term" "StepChecker.is_term" "minismt.checker" 699 473
noncomputable def o477 : Obj := tO [sV "self" 798, sV "t" 799]
noncomputable def o479 : Obj := nO (mem 14 8) "is_bool_term" "StepChecker.is_bool_term"
noncomputable def o480 : Obj := cO "is_bool_term" "StepChecker.is_bool_term" 795 248 2 3 475 true 476 (.ref 477) (.ref 478) (.ref 479) 800
noncomputable def o481 : Obj := uO (mem 14 8) "is_bool_term" "StepChecker.is_bool_term" "minismt.checker" 699 480
noncomputable def o484 : Obj := tO [sV "self" 806, sV "t" 807, sV "sign" 808]
noncomputable def o486 : Obj := nO (mem 14 9) "signed" "StepChecker.signed"
noncomputable def o487 : Obj := cO "signed" "StepChecker.signed" 803 251 2 3 482 true 483 (.ref 484) (.ref 485) (.ref 486) 809
noncomputable def o488 : Obj := uO (mem 14 9) "signed" "StepChecker.signed" "minismt.checker" 699 487
noncomputable def o491 : Obj := tO [sV "self" 815, sV "literal" 816]
noncomputable def o493 : Obj := nO (mem 14 10) "signed_literal" "StepChecker.signed_literal"
noncomputable def o494 : Obj := cO "signed_literal" "StepChecker.signed_literal" 812 258 2 3 489 true 490 (.ref 491) (.ref 492) (.ref 493) 817
noncomputable def o495 : Obj := uO (mem 14 10) "signed_literal" "StepChecker.signed_literal" "minismt.checker" 699 494
noncomputable def o498 : Obj := tO [sV "self" 823, sV "clause" 824]
noncomputable def o500 : Obj := nO (mem 14 11) "signed_clause" "StepChecker.signed_clause"
noncomputable def o501 : Obj := cO "signed_clause" "StepChecker.signed_clause" 820 261 2 3 496 true 497 (.ref 498) (.ref 499) (.ref 500) 825
noncomputable def o502 : Obj := uO (mem 14 11) "signed_clause" "StepChecker.signed_clause" "minismt.checker" 699 501
noncomputable def o505 : Obj := tO [sV "self" 831, sV "a" 832, sV "b" 833]
noncomputable def o507 : Obj := nO (mem 14 12) "equality" "StepChecker.equality"
noncomputable def o508 : Obj := cO "equality" "StepChecker.equality" 828 264 3 3 503 true 504 (.ref 505) (.ref 506) (.ref 507) 834
noncomputable def o509 : Obj := uO (mem 14 12) "equality" "StepChecker.equality" "minismt.checker" 699 508
noncomputable def o512 : Obj := tO [sV "self" 840, sV "steps" 841, sV "clause" 842, sV "premises" 843, sV "note" 844]
noncomputable def o514 : Obj := nO (mem 14 13) "resolve_fault" "StepChecker.resolve_fault"
noncomputable def o515 : Obj := cO "resolve_fault" "StepChecker.resolve_fault" 837 269 5 3 510 true 511 (.ref 512) (.ref 513) (.ref 514) 845
noncomputable def o516 : Obj := uO (mem 14 13) "resolve_fault" "StepChecker.resolve_fault" "minismt.checker" 699 515
noncomputable def o519 : Obj := tO [sV "self" 851, sV "some" 852, sV "note" 853]
noncomputable def o521 : Obj := nO (mem 14 14) "input_fault" "StepChecker.input_fault"
noncomputable def o522 : Obj := cO "input_fault" "StepChecker.input_fault" 848 272 3 3 517 true 518 (.ref 519) (.ref 520) (.ref 521) 854
noncomputable def o523 : Obj := uO (mem 14 14) "input_fault" "StepChecker.input_fault" "minismt.checker" 699 522
noncomputable def o526 : Obj := tO [sV "self" 860, sV "some" 861, sV "note" 862, sV "line" 863]
noncomputable def o528 : Obj := nO (mem 14 15) "define_fault" "StepChecker.define_fault"
noncomputable def o529 : Obj := cO "define_fault" "StepChecker.define_fault" 857 275 3 3 524 true 525 (.ref 526) (.ref 527) (.ref 528) 864
noncomputable def o530 : Obj := uO (mem 14 15) "define_fault" "StepChecker.define_fault" "minismt.checker" 699 529
noncomputable def o533 : Obj := nO (mem 14 16) "definition" "StepChecker.definition"
noncomputable def o534 : Obj := cO "definition" "StepChecker.definition" 867 284 2 3 531 true 532 .none .none (.ref 533) 870
noncomputable def o535 : Obj := uO (mem 14 16) "definition" "StepChecker.definition" "minismt.checker" 699 534
noncomputable def o538 : Obj := nO (mem 14 17) "distinct_definition" "StepChecker.distinct_definition"
noncomputable def o539 : Obj := cO "distinct_definition" "StepChecker.distinct_definition" 873 309 3 3 536 true 537 .none .none (.ref 538) 876
noncomputable def o540 : Obj := uO (mem 14 17) "distinct_definition" "StepChecker.distinct_definition" "minismt.checker" 699 539
noncomputable def o541 : Obj := tO [sV "assertions" 879, sV "assumptions" 880, sV "bank" 881, sV "names" 882]
noncomputable def o542 (P : Params) : Obj := ⟨(.type "dict"), none, (.dict [dE P "__module__" 718 (sV "minismt.checker" 699), dE P "__firstlineno__" 722 (.int 219 721), dE P "__init__" 733 (.ref 425), dE P "look" 742 (.ref 432), dE P "check" 750 (.ref 439), dE P "is_end" 758 (.ref 446), dE P "fault_of" 767 (.ref 453), dE P "alone_fault" 778 (.ref 460), dE P "is_clause" 786 (.ref 467), dE P "is_term" 794 (.ref 474), dE P "is_bool_term" 802 (.ref 481), dE P "signed" 811 (.ref 488), dE P "signed_literal" 819 (.ref 495), dE P "signed_clause" 827 (.ref 502), dE P "equality" 836 (.ref 509), dE P "resolve_fault" 847 (.ref 516), dE P "input_fault" 856 (.ref 523), dE P "define_fault" 866 (.ref 530), dE P "definition" 872 (.ref 535), dE P "distinct_definition" 878 (.ref 540), dE P "__static_attributes__" 883 (.ref 541), dE P "__dict__" 885 (.ref 544), dE P "__weakref__" 887 (.ref 545), dE P "__doc__" 888 .none].toArray 4), #[]⟩
noncomputable def o543 : Obj := ⟨(.type "type"), none, (.cls { name := (S "StepChecker"), bases := [(.type "object")], mro := [(.ref 543), (.type "object")], ns := 542, qualname := (S "StepChecker"), hasDict := true, slotNames := [], subclasses := [], abstract := false, collection := none, hasDel := false }), [none, none, some (sV "StepChecker" 711), some (sV "StepChecker" 719), some (.builtin "object.__new__"), some (.bool true)].toArray⟩
noncomputable def o544 : Obj := ⟨(.type "getset_descriptor"), none, (.fields [(sV "__dict__" 884), (.ref 543), (.builtin "function.__dict__"), (.builtin "function.__dict__#set")].toArray), #[]⟩
noncomputable def o545 : Obj := ⟨(.type "getset_descriptor"), none, (.fields [(sV "__weakref__" 886), (.ref 543), (.builtin "ExceptionGroup.__weakref__"), .none].toArray), #[]⟩
noncomputable def o546 : Obj := ⟨(.type "super"), none, (.fields [(.ref 543), (.ref 543), (.ref 543)].toArray), #[]⟩
noncomputable def o547 : Obj := ⟨(.type "builtin_function_or_method"), none, (.fields [(.builtin "object.__init_subclass__"), (.ref 543)].toArray), #[]⟩
noncomputable def o3v5 (P : Params) : Obj := ⟨(.type "dict"), none, (.dict [dE P "__name__" 165 (sV "law_nz0151_01" 891), dE P "__doc__" 166 .none, dE P "__package__" 167 .none, dE P "__loader__" 168 (.builtin "__main__.__loader__#opaque"), dE P "__spec__" 169 .none, dE P "__annotations__" 170 (.ref 6), dE P "__builtins__" 171 (.ref 4), dE P "__file__" 173 (sV "/claim/cut.py" 172), dE P "__cached__" 174 .none, dE P "_wall" 193 (.ref 21), dE P "SmtError" 233 (.ref 47), dE P "SortFault" 256 (.ref 67), dE P "is_number" 265 (.ref 76), dE P "are_same_sets" 273 (.ref 83), dE P "without_doubles" 283 (.ref 90), dE P "BOOL" 287 (.int 0 286), dE P "Bank" 565 (.ref 303), dE P "BoolBank" 698 (.ref 408), dE P "FORMS" 710 (.ref 411), dE P "StepChecker" 890 (.ref 543), dE P "_law_dip" 901 (.ref 554), dE P "_law_plain" 909 (.ref 561), dE P "_law_drawn" 915 (.ref 566), dE P "_law_meant" 923 (.ref 573), dE P "_law_clauses" 929 (.ref 578), dE P "_law_is_kept" 935 (.ref 583), dE P "_law_are_right" 941 (.ref 588), dE P "_law_is_boolean_right" 947 (.ref 593), dE P "_law_ways" 953 (.ref 598), dE P "_law_is_apart_right" 959 (.ref 603), dE P "law" 965 (.ref 608)].toArray 31), #[]⟩
noncomputable def o12v5 : Obj := fO [iV 1, iV 0, .ref 20, iV 5, iV 0, .ref 28, iV 13, iV 0, .ref 56, iV 18, iV 0, .ref 75, iV 20, iV 0, .ref 82, iV 22, iV 0, .ref 89, iV 33, iV 0, .ref 96, iV 149, iV 0, .ref 313, iV 219, iV 0, .ref 417, iV 318, iV 0, .ref 553, iV 324, iV 0, .ref 560, iV 326, iV 0, .ref 565, iV 346, iV 0, .ref 572, iV 356, iV 0, .ref 577, iV 361, iV 0, .ref 582, iV 363, iV 0, .ref 587, iV 373, iV 0, .ref 592, iV 393, iV 0, .ref 597, iV 398, iV 0, .ref 602, iV 421, iV 0, .ref 607]
noncomputable def o550 : Obj := tO [sV "feed" 896, sV "many" 897, sV "spot" 898]
noncomputable def o552 : Obj := nO (top 16) "_law_dip" "_law_dip"
noncomputable def o553 : Obj := cO "_law_dip" "_law_dip" 893 318 2 3 548 true 549 (.ref 550) (.ref 551) (.ref 552) 899
noncomputable def o554 : Obj := uO (top 16) "_law_dip" "_law_dip" "law_nz0151_01" 891 553
noncomputable def o557 : Obj := tO [sV "bank_now" 905, sV "t" 906]
noncomputable def o559 : Obj := nO (top 17) "_law_plain" "_law_plain"
noncomputable def o560 : Obj := cO "_law_plain" "_law_plain" 902 324 2 3 555 true 556 (.ref 557) (.ref 558) (.ref 559) 907
noncomputable def o561 : Obj := uO (top 17) "_law_plain" "_law_plain" "law_nz0151_01" 891 560
noncomputable def o564 : Obj := nO (top 18) "_law_drawn" "_law_drawn"
noncomputable def o565 : Obj := cO "_law_drawn" "_law_drawn" 910 326 3 3 562 true 563 .none .none (.ref 564) 913
noncomputable def o566 : Obj := uO (top 18) "_law_drawn" "_law_drawn" "law_nz0151_01" 891 565
noncomputable def o569 : Obj := tO [sV "op" 919, sV "truths" 920]
noncomputable def o571 : Obj := nO (top 19) "_law_meant" "_law_meant"
noncomputable def o572 : Obj := cO "_law_meant" "_law_meant" 916 346 2 3 567 true 568 (.ref 569) (.ref 570) (.ref 571) 921
noncomputable def o573 : Obj := uO (top 19) "_law_meant" "_law_meant" "law_nz0151_01" 891 572
noncomputable def o576 : Obj := nO (top 20) "_law_clauses" "_law_clauses"
noncomputable def o577 : Obj := cO "_law_clauses" "_law_clauses" 924 356 1 3 574 true 575 .none .none (.ref 576) 927
noncomputable def o578 : Obj := uO (top 20) "_law_clauses" "_law_clauses" "law_nz0151_01" 891 577
noncomputable def o581 : Obj := nO (top 21) "_law_is_kept" "_law_is_kept"
noncomputable def o582 : Obj := cO "_law_is_kept" "_law_is_kept" 930 361 2 3 579 true 580 .none .none (.ref 581) 933
noncomputable def o583 : Obj := uO (top 21) "_law_is_kept" "_law_is_kept" "law_nz0151_01" 891 582
noncomputable def o586 : Obj := nO (top 22) "_law_are_right" "_law_are_right"
noncomputable def o587 : Obj := cO "_law_are_right" "_law_are_right" 936 363 5 3 584 true 585 .none .none (.ref 586) 939
noncomputable def o588 : Obj := uO (top 22) "_law_are_right" "_law_are_right" "law_nz0151_01" 891 587
noncomputable def o591 : Obj := nO (top 23) "_law_is_boolean_right" "_law_is_boolean_right"
noncomputable def o592 : Obj := cO "_law_is_boolean_right" "_law_is_boolean_right" 942 373 3 3 589 true 590 .none .none (.ref 591) 945
noncomputable def o593 : Obj := uO (top 23) "_law_is_boolean_right" "_law_is_boolean_right" "law_nz0151_01" 891 592
noncomputable def o596 : Obj := nO (top 24) "_law_ways" "_law_ways"
noncomputable def o597 : Obj := cO "_law_ways" "_law_ways" 948 393 1 3 594 true 595 .none .none (.ref 596) 951
noncomputable def o598 : Obj := uO (top 24) "_law_ways" "_law_ways" "law_nz0151_01" 891 597
noncomputable def o601 : Obj := nO (top 25) "_law_is_apart_right" "_law_is_apart_right"
noncomputable def o602 : Obj := cO "_law_is_apart_right" "_law_is_apart_right" 954 398 3 3 599 true 600 .none .none (.ref 601) 957
noncomputable def o603 : Obj := uO (top 25) "_law_is_apart_right" "_law_is_apart_right" "law_nz0151_01" 891 602
noncomputable def o606 : Obj := nO (top 26) "law" "law"
noncomputable def o607 : Obj := cO "law" "law" 960 421 1 3 604 true 605 .none .none (.ref 606) 963
noncomputable def o608 : Obj := uO (top 26) "law" "law" "law_nz0151_01" 891 607
noncomputable def alt : List Obj → List Obj
  | x :: _ :: r => x :: alt r
  | r => r
noncomputable def bt : Nat → List Obj → BT
  | n + 1, x :: r => .node x (bt n (alt r)) (bt n (alt r.tail))
  | _, _ => .nil
noncomputable def oL (P : Params) : List Obj := [boot_o_0 P, boot_o_1 P, o2v1 P, o3v5 P, boot_o_4 P, boot_o_5 P, boot_o_6 P, boot_o_7 P, boot_o_8 P, boot_o_9 P, boot_o_10 P, o11, o12v5, o13, o14, o11, o12, o17, o11, o19, o20, o21, o22, o23, o24 P, o25, o11, o27, o28, o29, o30, o31, o12, o33, o11, o35, o36, o37, o11, o12, o40, o11, o42, o43, o44, o45, o46 P, o47, o48, o49, o50, o51, o23, o53 P, o11, o55, o56, o57, o11, o12, o60, o11, o62, o63, o64, o11, o66 P, o67, o68, o69, o11, o12, o72, o11, o74, o75, o76, o11, o12, o79, o11, o81, o82, o83, o11, o12, o86, o11, o88, o89, o90, o11, o23, o93 P, o11, o95, o96, o97, o11, o12, o100, o11, o102, o103, o104, o11, o12, o107, o11, o109, o110, o111, o11, o12, o114, o11, o116, o117, o118, o11, o12, o121, o11, o123, o124, o125, o11, o12, o128, o11, o130, o131, o132, o11, o12, o135, o11, o137, o138, o139, o11, o12, o142, o11, o144, o145, o146, o11, o12, o149, o11, o151, o152, o153, o11, o12, o156, o11, o158, o159, o160, o11, o12, o163, o11, o165, o166, o167, o11, o12, o170, o11, o172, o173, o174, o11, o12, o177, o11, o179, o180, o181, o11, o12, o184, o11, o186, o187, o188, o11, o12, o191, o11, o193, o194, o195, o11, o12, o198, o11, o200, o201, o202, o11, o12, o205, o11, o207, o208, o209, o11, o12, o212, o11, o214, o215, o216, o11, o12, o219, o11, o221, o222, o223, o11, o12, o226, o11, o228, o229, o230, o11, o12, o233, o11, o235, o236, o237, o11, o12, o240, o11, o242, o243, o244, o11, o12, o247, o11, o249, o250, o251, o11, o12, o254, o11, o256, o257, o258, o11, o12, o261, o11, o263, o264, o265, o11, o12, o268, o11, o270, o271, o272, o11, o12, o275, o11, o277, o278, o279, o11, o12, o282, o11, o284, o285, o286, o11, o12, o289, o11, o291, o292, o293, o11, o12, o296, o11, o298, o299, o300, o301, o302 P, o303v1, o304, o305, o306, o307, o308, o23, o310 P, o11, o312, o313, o314, o11, o12, o317, o11, o319, o320, o321, o11, o12, o324, o11, o326, o327, o328, o11, o12, o331, o11, o333, o334, o335, o11, o12, o338, o11, o340, o341, o342, o11, o12, o345, o11, o347, o348, o349, o11, o12, o352, o11, o354, o355, o356, o11, o12, o359, o11, o361, o362, o363, o11, o12, o366, o11, o368, o369, o370, o11, o12, o373, o11, o375, o376, o377, o11, o12, o380, o11, o382, o383, o384, o11, o12, o387, o11, o389, o390, o391, o11, o12, o394, o11, o396, o397, o398, o11, o12, o401, o11, o403, o404, o405, o11, o407 P, o408, o409, o410, o411, o11, o23, o414 P, o11, o416, o417, o418, o11, o12, o421, o11, o423, o424, o425, o11, o12, o428, o11, o430, o431, o432, o11, o12, o435, o11, o437, o438, o439, o11, o12, o442, o11, o444, o445, o446, o11, o12, o449, o11, o451, o452, o453, o11, o12, o456, o11, o458, o459, o460, o11, o12, o463, o11, o465, o466, o467, o11, o12, o470, o11, o472, o473, o474, o11, o12, o477, o11, o479, o480, o481, o11, o12, o484, o11, o486, o487, o488, o11, o12, o491, o11, o493, o494, o495, o11, o12, o498, o11, o500, o501, o502, o11, o12, o505, o11, o507, o508, o509, o11, o12, o512, o11, o514, o515, o516, o11, o12, o519, o11, o521, o522, o523, o11, o12, o526, o11, o528, o529, o530, o11, o12, o533, o534, o535, o11, o12, o538, o539, o540, o541, o542 P, o543, o544, o545, o546, o547, o11, o12, o550, o11, o552, o553, o554, o11, o12, o557, o11, o559, o560, o561, o11, o12, o564, o565, o566, o11, o12, o569, o11, o571, o572, o573, o11, o12, o576, o577, o578, o11, o12, o581, o582, o583, o11, o12, o586, o587, o588, o11, o12, o591, o592, o593, o11, o12, o596, o597, o598, o11, o12, o601, o602, o603, o11, o12, o606, o607, o608]
noncomputable def tree0 (P : Params) : BT := bt 10 (((((oL P).take 15).set 2 (boot_o_2 P)).set 3 (boot_o_3 P)).set 12 o12)
noncomputable def tree10 (P : Params) : BT := bt 10 ((((oL P).take 91).set 3 (o3v1 P)).set 12 o12v1)
noncomputable def tree11 (P : Params) : BT := bt 10 (((((oL P).take 308).set 3 (o3v2 P)).set 12 o12v2).set 303 o303)
noncomputable def tree12 (P : Params) : BT := bt 10 ((((oL P).take 411).set 3 (o3v3 P)).set 12 o12v3)
noncomputable def tree15 (P : Params) : BT := bt 10 ((((oL P).take 548).set 3 (o3v4 P)).set 12 o12v4)
noncomputable def tree27 (P : Params) : BT := bt 10 (oL P)
noncomputable def heapF (P : Params) : Heap := ⟨⟨oL P⟩, {}⟩
noncomputable def KF (P : Params) : Frag := [(2, o2v1 P), (3, o3v5 P), (75, o75), (76, o76), (82, o82), (83, o83), (89, o89), (90, o90), (103, o103), (104, o104), (117, o117), (118, o118), (145, o145), (146, o146), (159, o159), (160, o160), (194, o194), (195, o195), (201, o201), (202, o202), (208, o208), (209, o209), (215, o215), (216, o216), (229, o229), (230, o230), (236, o236), (237, o237), (243, o243), (244, o244), (257, o257), (258, o258), (264, o264), (265, o265), (271, o271), (272, o272), (285, o285), (286, o286), (302, o302 P), (303, o303v1), (320, o320), (321, o321), (327, o327), (328, o328), (334, o334), (335, o335), (341, o341), (342, o342), (348, o348), (349, o349), (362, o362), (363, o363), (369, o369), (370, o370), (376, o376), (377, o377), (383, o383), (384, o384), (407, o407 P), (408, o408), (411, o411), (424, o424), (425, o425), (473, o473), (474, o474), (480, o480), (481, o481), (487, o487), (488, o488), (508, o508), (509, o509), (529, o529), (530, o530), (534, o534), (535, o535), (539, o539), (540, o540), (542, o542 P), (543, o543), (553, o553), (554, o554), (560, o560), (561, o561), (565, o565), (566, o566), (572, o572), (573, o573), (577, o577), (578, o578), (582, o582), (583, o583), (587, o587), (588, o588), (592, o592), (593, o593), (597, o597), (598, o598), (602, o602), (603, o603), (607, o607), (608, o608)]
noncomputable def KA : List Addr := [2, 3, 75, 76, 82, 83, 89, 90, 103, 104, 117, 118, 145, 146, 159, 160, 194, 195, 201, 202, 208, 209, 215, 216, 229, 230, 236, 237, 243, 244, 257, 258, 264, 265, 271, 272, 285, 286, 302, 303, 320, 321, 327, 328, 334, 335, 341, 342, 348, 349, 362, 363, 369, 370, 376, 377, 383, 384, 407, 408, 411, 424, 425, 473, 474, 480, 481, 487, 488, 508, 509, 529, 530, 534, 535, 539, 540, 542, 543, 553, 554, 560, 561, 565, 566, 572, 573, 577, 578, 582, 583, 587, 588, 592, 593, 597, 598, 602, 603, 607, 608]
noncomputable abbrev bE : List Stmt := behindTheImports prg
noncomputable abbrev envT : Env := { scope := prg.main.scope, locals := mainNs, globals := mainNs, cells := [], code := .ref 13, frame := some 14 }
noncomputable abbrev cE : Code := .body bE envT
noncomputable abbrev pz : Pos := ⟨0, 0, 0, 0⟩
noncomputable abbrev annV : Option Value := some (.ref 6)
noncomputable abbrev stT (T : Params → BT) (n tk : Nat) (w : World) (os : OsState) : SharedT := ⟨T w.params, n, {}, #[], {}, tk, os⟩
noncomputable def sts (i k : Nat) : List Stmt := (bE.drop i).take k
theorem h_pre (w : World) (os : OsState) : topGo treeTable prg w 11 annV 12 ⟨boot_heap w.params, ⟨[]⟩, boot_drawn, boot_toks, os⟩ (topStub prg) = some ((stT tree0 15 187 w os).abs, ⟨denote treeTable cE, cE, pz, [topFrame pz]⟩) := by kernel_rfl
theorem h_block (w : World) (os : OsState) : segRunT treeTable prg w 11 annV 1 3 (stT tree0 15 187 w os) (blockOf bE envT cE pz [topFrame pz]) = some (.next, stT tree0 15 187 w os, cE, pz) := by kernel_rfl
theorem h_1 (w : World) (os : OsState) : segRunT treeTable prg w 11 annV 1 700 (stT tree0 15 187 w os) (piecesOf (sts 0 10) envT cE pz [topFrame pz]) = some (.next, stT tree10 91 288 w os, cE, ⟨32, 0, 32, 4⟩) := by kernel_rfl
theorem h_2 (w : World) (os : OsState) : segRunT treeTable prg w 11 annV 1 1150 (stT tree10 91 288 w os) (piecesOf (sts 10 1) envT cE ⟨32, 0, 32, 4⟩ [topFrame pz]) = some (.next, stT tree11 308 566 w os, cE, ⟨33, 0, 148, 17⟩) := by kernel_rfl
theorem h_3 (w : World) (os : OsState) : segRunT treeTable prg w 11 annV 1 650 (stT tree11 308 566 w os) (piecesOf (sts 11 1) envT cE ⟨33, 0, 148, 17⟩ [topFrame pz]) = some (.next, stT tree12 411 699 w os, cE, ⟨149, 0, 216, 17⟩) := by kernel_rfl
theorem h_4 (w : World) (os : OsState) : segRunT treeTable prg w 11 annV 1 810 (stT tree12 411 699 w os) (piecesOf (sts 12 3) envT cE ⟨149, 0, 216, 17⟩ [topFrame pz]) = some (.next, stT tree15 548 891 w os, cE, ⟨219, 0, 316, 56⟩) := by kernel_rfl
theorem h_5 (w : World) (os : OsState) : segRunT treeTable prg w 11 annV 1 320 (stT tree15 548 891 w os) (piecesOf (sts 15 12) envT cE ⟨219, 0, 316, 56⟩ [topFrame pz]) = some (.next, stT tree27 609 966 w os, cE, ⟨421, 0, 430, 93⟩) := by kernel_rfl
theorem h_fin (w : World) (os : OsState) : topRun treeTable prg w 11 annV 10 (stT tree27 609 966 w os).abs ⟨doneF .next, cE, ⟨421, 0, 430, 93⟩, [topFrame pz]⟩ = some ⟨heapF w.params, #[], {}, 966, os⟩ := by kernel_rfl
theorem h_bE : bE = sts 0 10 ++ (sts 10 1 ++ (sts 11 1 ++ (sts 12 3 ++ (sts 15 12 ++ [])))) := by kernel_rfl
theorem h_run (w : World) (os : OsState) : topRun treeTable prg w 11 annV (12 + (3 + (700 + (1150 + (650 + (810 + (320 + 10))))))) ⟨boot_heap w.params, ⟨[]⟩, boot_drawn, boot_toks, os⟩ (topStub prg) = some ⟨heapF w.params, #[], {}, 966, os⟩ := by
  refine go_top (h_pre w os) (piece_block (segRun_of (h_block w os)) ?_)
  have k5 := piece_app (rest := []) (segRun_of (h_5 w os)) (piece_nil (h_fin w os))
  have k4 := piece_app (segRun_of (h_4 w os)) k5
  have k3 := piece_app (segRun_of (h_3 w os)) k4
  have k2 := piece_app (segRun_of (h_2 w os)) k3
  have k1 := piece_app (segRun_of (h_1 w os)) k2
  rw [← h_bE] at k1
  exact k1
theorem h_open (w : World) : Option.map (fun s : Shared => (s.heap, s.gens, s.drawn, s.toks)) (fencedOpening treeTable prg w 7268) = some (boot_heap w.params, ⟨[]⟩, boot_drawn, boot_toks) :=
  boot_open (p := prg) (by kernel_rfl) (by decide +kernel) (fun s => by kernel_rfl) w
theorem h_size (w : World) : ((boot_heap w.params).isNs mainGlobals && (⟨[]⟩ : Array GenState).size == 0, (boot_heap w.params).objs.size, (boot_heap w.params).nsMap mainGlobals (Str.ofString "__annotations__")) = (true, 11, annV) := by kernel_rfl
noncomputable def qV : Program := { prg with main := { prg.main with body := [top 26] } }
noncomputable def lsV : List Str := prg.boundNames.filter fun n => n != S "law"
noncomputable abbrev XtV : Shared → Bool := fun s => xlAt qV [] s && recOk (RowW.records PySem.Challenge.rw_nz0151_01.row.toRowW) s
theorem KA_eq (P : Params) : KA = (KF P).map (·.1) := by kernel_rfl
noncomputable abbrev HkV : Hook := kHook KF KA KA_eq
theorem h_l1 (w : World) : (fun os : OsState => (staticsOk (importedModules prg.main.body) (boot_heap w.params) (heapF w.params) && namesBound prg (heapF w.params) && gensDone ⟨heapF w.params, #[], {}, 966, os⟩ && laidKept (boot_heap w.params) (heapF w.params))) = fun _ => true := by kernel_rfl
theorem h_l2 (w : World) : (fun os : OsState => openSeen qV lsV (importedModules prg.main.body) XtV true ⟨heapF w.params, #[], {}, 966, os⟩) = fun _ => openGood qV lsV := by kernel_rfl
theorem h_l3 (w : World) : (fun os : OsState => HkV.obs ⟨heapF w.params, #[], {}, 966, os⟩) = fun _ => HkV.val w := by kernel_rfl
theorem h_left : LeftO prg qV lsV XtV HkV.obs HkV.val 7268 true :=
  LeftO.of_pieces h_open h_size h_run (by decide +kernel) fun w => funext fun os => looks_pair (congrFun (h_l1 w) os) (looks_pair (congrFun (h_l2 w) os) (congrFun (h_l3 w) os))
noncomputable def lawD : DefRec := ⟨S "law", dArgs (top 26), dBody (top 26), dScope (top 26), (top 26).pos⟩
noncomputable abbrev rwL : OpenLaw := PySem.Challenge.rw_nz0151_01
theorem lo1 : sreFenced prg.main = true := by kernel_rfl
theorem lo2 : ((moduleNames prg.main.body).isEmpty || lookedIntoSs (moduleNames prg.main.body) prg.main.body) = true := by kernel_rfl
theorem lo3 : namesResolve prg = true := by kernel_rfl
theorem lo4 : prg.boundNames.all (fun n => !worldNames.contains n) = true := by kernel_rfl
theorem lo5 : noRoadLSs { strict := !(importedModules prg.main.body).all cThrough.contains, foot := none, bare := (["vars", "dir", "locals"] : List Str).filter (readsOut prg prg.main.body) } prg.main.body = true := by kernel_rfl
theorem lo6 : namesMeet prg prg.main.body (fun _ n => attrL n) = true := by kernel_rfl
theorem row_ws : rwL.row.wellSaid = true := by
  unfold OpenRow.wellSaid OpenRow.partSaid
  iterate 15 refine look_both ?_ (by kernel_rfl)
  exact look_both (look_both (look_both (look_both (look_both lo1 lo2) lo3) lo4) lo5) lo6
theorem law_ws : rwL.wellSaid = true := by
  unfold OpenLaw.wellSaid
  iterate 18 refine look_both ?_ (by kernel_rfl)
  exact row_ws
theorem hd (call : WalkO qV lsV (XL qV []) HkV.says rwL.row.toRowW lawD [] fun f vs => PySem.call f vs) : rwL.Holds :=
  holds_law law_ws fun said => holds_open (q := qV) (loose := lsV) (Xt := XtV) (XP := XL qV []) (Yf := HkV.obs) (Ya := HkV.val) (YP := HkV.says) (d := lawD) (kwd := []) (N := 7268) h_left HkV.of HkV.keeps
    (fun s e => xl_of s (Bool.and_eq_true_iff.mp e).1) XL.keeps (by kernel_rfl) (by kernel_rfl) (by kernel_rfl) (fun s e => recFacts_of (Bool.and_eq_true_iff.mp e).2) (by kernel_rfl) said (by decide +kernel) ⟨rfl, rfl, rfl, rfl, rfl, by decide +kernel⟩ ⟨[.list []], by decide +kernel, by decide +kernel⟩ call
noncomputable def Ext (h h' : Heap) : Prop := ∀ b o, h.get? b = some o → h'.get? b = some o
theorem Ext.refl (h : Heap) : Ext h h := fun _ _ e => e
theorem Ext.trans {a b c : Heap} (x : Ext a b) (y : Ext b c) : Ext a c := fun i o e => y i o (x i o e)
theorem Ext.push (h : Heap) (o : Obj) : Ext h (h.push o) := fun _ _ e => Heap.get?_push_of_some _ e
noncomputable def ExtO (H : List Addr) (h h' : Heap) : Prop := ∀ b o, b ∉ H → h.get? b = some o → h'.get? b = some o
theorem ExtO.trans {H : List Addr} {a b c : Heap} (x : ExtO H a b) (y : ExtO H b c) : ExtO H a c := fun i o n e => y i o n (x i o n e)
noncomputable def Dm (H : List Addr) (h : Heap) : Prop := ∀ b ∈ H, h.get? b ≠ none
theorem Dm.ext {H : List Addr} {h h' : Heap} (d : Dm H h) (x : Ext h h') : Dm H h' := fun b hb e => by
  cases q : h.get? b with
  | none => exact d b hb q
  | some o => rw [x b o q] at e; cases e
theorem Dm.new {H : List Addr} {h : Heap} (d : Dm H h) : h.objs.size ∉ H := fun hb => by
  cases q : h.get? h.objs.size with
  | none => exact d _ hb q
  | some o => exact Nat.lt_irrefl _ (Heap.lt_size q)
theorem get_new (h : Heap) : h.get? h.objs.size = none := by
  cases q : h.get? h.objs.size with
  | none => rfl
  | some o => exact absurd (Heap.lt_size q) (Nat.lt_irrefl _)
theorem all2 {α : Type} {P : α → Prop} {a b : α} (x : P a) (y : P b) : ∀ z ∈ [a, b], P z := fun z h => by
  cases h with
  | head => exact x
  | tail _ h => rw [List.mem_singleton.mp h]; exact y
theorem all3 {α : Type} {P : α → Prop} {a b c : α} (x : P a) (y : P b) (u : P c) : ∀ z ∈ [a, b, c], P z := fun z h => by
  cases h with
  | head => exact x
  | tail _ h => exact all2 y u z h
inductive At where
  | int (i : Int)
  | str (s : Str)
  | bool (b : Bool)
  deriving DecidableEq
noncomputable def At.v : At → Value → Prop
  | .int i, u => ∃ t, u = .int i t
  | .str s, u => ∃ t, u = .str s t
  | .bool b, u => u = .bool b
noncomputable def TabVals : List (Int × At) → List (Int × Value) → Prop
  | [], [] => True
  | p :: r, q :: s => p.1 = q.1 ∧ p.2.v q.2 ∧ TabVals r s
  | _, _ => False
noncomputable def Tab (h : Heap) (a : Addr) (kv : List (Int × At)) : Prop := (a == sysModules) = false ∧ ∃ (w : World) (kvs : List (Int × Value)), h.DictOf (intKind prg w) a kvs ∧ TabVals kv kvs
theorem Tab.at {h h' : Heap} {a : Addr} {kv : List (Int × At)} (t : Tab h a kv) (e : ∀ o, h.get? a = some o → h'.get? a = some o) : Tab h' a kv :=
  let ⟨sy, w, kvs, ⟨o, es, ep, q, r⟩, v⟩ := t; ⟨sy, w, kvs, ⟨o, es, ep, e _ q, r⟩, v⟩
theorem Tab.some {h : Heap} {a : Addr} {kv : List (Int × At)} (t : Tab h a kv) : ∃ o, h.get? a = some o :=
  let ⟨_, w, kvs, ⟨o, es, ep, q, r⟩, v⟩ := t; ⟨o, q⟩
inductive D where
  | int (i : Int)
  | str (s : Str)
  | bool (b : Bool)
  | none
  | obj (a : Addr)
  | typ (T : String)
  | tab (kv : List (Int × At))
  | list (l : List D)
  | tup (l : List D)
mutual
noncomputable def Rd (H : List Addr) (h : Heap) : D → Value → Prop
  | .int i, v => ∃ t, v = .int i t
  | .str s, v => ∃ t, v = .str s t
  | .bool b, v => v = .bool b
  | .none, v => v = .none
  | .obj a, v => v = .ref a
  | .typ T, v => v = .type T
  | .tab kv, v => ∃ a, v = .ref a ∧ a ∉ H ∧ Tab h a kv
  | .list l, v => ∃ a vs, v = .ref a ∧ a ∉ H ∧ h.IsList a vs.toArray ∧ RdAll H h l vs
  | .tup l, v => ∃ a vs, v = .ref a ∧ a ∉ H ∧ IsTup h a vs.toArray ∧ RdAll H h l vs
noncomputable def RdAll (H : List Addr) (h : Heap) : List D → List Value → Prop
  | [], vs => vs = []
  | d :: ds, vs => ∃ v r, vs = v :: r ∧ Rd H h d v ∧ RdAll H h ds r
end
mutual
theorem Rd.mono {H H' : List Addr} {h h' : Heap} (x : ∀ b o, b ∉ H → h.get? b = some o → b ∉ H' ∧ h'.get? b = some o) : ∀ {d : D} {v : Value}, Rd H h d v → Rd H' h' d v
  | .int _, _, r => r
  | .str _, _, r => r
  | .bool _, _, r => r
  | .none, _, r => r
  | .obj _, _, r => r
  | .typ _, _, r => r
  | .tab _, _, ⟨a, e, n, t⟩ => let ⟨o, q⟩ := t.some; ⟨a, e, (x a o n q).1, t.at fun o' q' => (x a o' n q').2⟩
  | .list l, _, ⟨a, vs, e, n, ⟨o, ho, r⟩, al⟩ => ⟨a, vs, e, (x a o n ho).1, ⟨o, (x a o n ho).2, r⟩, RdAll.mono x al⟩
  | .tup l, _, ⟨a, vs, e, n, ⟨o, ho, r⟩, al⟩ => ⟨a, vs, e, (x a o n ho).1, ⟨o, (x a o n ho).2, r⟩, RdAll.mono x al⟩
theorem RdAll.mono {H H' : List Addr} {h h' : Heap} (x : ∀ b o, b ∉ H → h.get? b = some o → b ∉ H' ∧ h'.get? b = some o) : ∀ {ds : List D} {vs : List Value}, RdAll H h ds vs → RdAll H' h' ds vs
  | [], _, r => r
  | _ :: _, _, ⟨v, r, e, a, b⟩ => ⟨v, r, e, Rd.mono x a, RdAll.mono x b⟩
end
theorem Rd.ext {H : List Addr} {h h' : Heap} {d : D} {v : Value} (r : Rd H h d v) (x : Ext h h') : Rd H h' d v := r.mono fun b o n e => ⟨n, x b o e⟩
theorem RdAll.ext {H : List Addr} {h h' : Heap} {d : List D} {v : List Value} (r : RdAll H h d v) (x : Ext h h') : RdAll H h' d v := r.mono fun b o n e => ⟨n, x b o e⟩
theorem Rd.off {H : List Addr} {h h' : Heap} {d : D} {v : Value} (r : Rd H h d v) (x : ExtO H h h') : Rd H h' d v := r.mono fun b o n e => ⟨n, x b o n e⟩
theorem RdAll.off {H : List Addr} {h h' : Heap} {d : List D} {v : List Value} (r : RdAll H h d v) (x : ExtO H h h') : RdAll H h' d v := r.mono fun b o n e => ⟨n, x b o n e⟩
theorem Rd.less {H H' : List Addr} {h : Heap} {d : D} {v : Value} (r : Rd H h d v) (x : ∀ b, b ∈ H' → b ∈ H) : Rd H' h d v := r.mono fun b o n e => ⟨fun m => n (x b m), e⟩
theorem Rd.more {H H' : List Addr} {h h' : Heap} {d : D} {v : Value} (r : Rd H h d v) (e : Ext h h') (x : ∀ b, b ∈ H' → b ∈ H ∨ h.get? b = none) : Rd H' h' d v :=
  r.mono fun b o n q => ⟨fun m => (x b m).elim n (fun z => by rw [z] at q; exact absurd q (fun y => nomatch y)), e b o q⟩
theorem RdAll.more {H H' : List Addr} {h h' : Heap} {d : List D} {v : List Value} (r : RdAll H h d v) (e : Ext h h') (x : ∀ b, b ∈ H' → b ∈ H ∨ h.get? b = none) : RdAll H' h' d v :=
  r.mono fun b o n q => ⟨fun m => (x b m).elim n (fun z => by rw [z] at q; exact absurd q (fun y => nomatch y)), e b o q⟩
theorem RdAll.length {H : List Addr} {h : Heap} : ∀ {ds : List D} {vs : List Value}, RdAll H h ds vs → vs.length = ds.length
  | [], _, r => by cases r; rfl
  | _ :: _, _, ⟨v, r, e, a, b⟩ => by subst e; simp [b.length]
theorem RdAll.get {H : List Addr} {h : Heap} : ∀ {ds : List D} {vs : List Value} (i : Nat) {d : D}, RdAll H h ds vs → ds[i]? = some d → ∃ v, vs[i]? = some v ∧ Rd H h d v
  | _ :: _, _, 0, _, ⟨v, r, e, a, b⟩, q => by subst e; cases q; exact ⟨v, rfl, a⟩
  | _ :: _, _, i + 1, _, ⟨v, r, e, a, b⟩, q => by subst e; exact b.get i q
theorem RdAll.app {H : List Addr} {h : Heap} : ∀ {ds es : List D} {vs ws : List Value}, RdAll H h ds vs → RdAll H h es ws → RdAll H h (ds ++ es) (vs ++ ws)
  | [], _, _, _, r, q => by cases r; exact q
  | _ :: _, _, _, _, ⟨v, r, e, a, b⟩, q => by subst e; exact ⟨v, _, rfl, a, b.app q⟩
theorem RdAll.snoc {H : List Addr} {h : Heap} {ds : List D} {vs : List Value} {d : D} {v : Value} (r : RdAll H h ds vs) (q : Rd H h d v) : RdAll H h (ds ++ [d]) (vs ++ [v]) := r.app ⟨v, [], rfl, q, rfl⟩
structure Gd (w : World) (mg mb : Str → Option Value) (h : Heap) : Prop where
  X : (KF w.params).In h
  T : TopRead qV (looseW qV lsV) mg mb h
theorem Gd.ext {w : World} {mg mb : Str → Option Value} {h h' : Heap} (g : Gd w mg mb h) (x : Ext h h') : Gd w mg mb h' := ⟨g.X.keeps x, g.T.keeps x⟩
noncomputable def Rm (A : Around) (k : Nat) : Prop := A.handled = none ∧ A.depth + k < recursionLimit ∧ A.units + 8 * k + 200 < cLine
theorem Rm.deeper {A : Around} {k : Nat} {env : Env} (r : Rm A (k + 1)) : Rm (A.deeper env) k := by
  obtain ⟨a, b, c⟩ := r
  refine ⟨a, ?_, ?_⟩
  · show A.depth + 1 + k < _; omega
  · show A.units + 3 + 8 * k + 200 < _; omega
theorem Rm.le {A : Around} {k k' : Nat} (r : Rm A k) (q : k' ≤ k) : Rm A k' := ⟨r.1, by have := r.2.1; omega, by have := r.2.2; omega⟩
theorem Rm.hd {A : Around} {k : Nat} (r : Rm A k) : A.handled = none := r.1
theorem Rm.dep {A : Around} {k : Nat} (r : Rm A k) : A.depth < recursionLimit := by have := r.2.1; omega
theorem Rm.uni {A : Around} {k : Nat} (r : Rm A k) : A.units < cLine := by have := r.2.2; omega
theorem Rm.u64 {A : Around} {k : Nat} (r : Rm A k) : A.units + 100 < cLine := by have := r.2.2; omega
noncomputable def Gv (w : World) (A : Around) (h : Heap) {α : Type} (t : Sem α) (P : α → Heap → Prop) : Prop :=
  ∀ (s : Shared) (Q : α → Shared → Prop) (E : Value → Shared → Prop), Ext h s.heap → (∀ v h' tk, Ext s.heap h' → P v h' → Q v { s with heap := h', toks := tk }) → wpAny (model prg w) A t Q E s
section
variable {w : World} {A : Around} {h : Heap} {H : List Addr} {env : Env} {mg mb : Str → Option Value}
theorem Gv.up {α : Type} {t : Sem α} {P : α → Heap → Prop} {h' : Heap} (g : Gv w A h t P) (x : Ext h h') : Gv w A h' t P := fun s Q E e k => g s Q E (x.trans e) k
theorem Gv.imp {α : Type} {t : Sem α} {P P' : α → Heap → Prop} (g : Gv w A h t P) (i : ∀ v h', P v h' → P' v h') : Gv w A h t P' := fun s Q E e k => g s Q E e fun v h' tk x p => k v h' tk x (i v h' p)
noncomputable abbrev Ev (w : World) (A : Around) (H : List Addr) (env : Env) (h : Heap) (e : Expr) (d : D) : Prop := Gv w A h (eval e env) (fun v h' => Rd H h' d v)
noncomputable abbrev Et (w : World) (A : Around) (env : Env) (h : Heap) (e : Expr) (b : Bool) : Prop := Gv w A h (PySem.isTrue e env (eval e env)) (fun v _ => v = b)
theorem Ev.int {i : Int} {k : Nat} {pos : Pos} : Ev w A H env h (.Constant (.int i) k pos) (.int i) := fun s Q E e k => wpAny_Constant_int (k _ s.heap _ (Ext.refl _) ⟨_, rfl⟩)
theorem Ev.str {x : Str} {k : Nat} {pos : Pos} : Ev w A H env h (.Constant (.str x) k pos) (.str x) := fun s Q E e k => Calls.Constant_str (k _ s.heap _ (Ext.refl _) ⟨_, rfl⟩)
theorem Ev.cbool {b : Bool} {k : Nat} {pos : Pos} : Ev w A H env h (.Constant (.bool b) k pos) (.bool b) := fun s Q E e k => by
  show wpAny _ _ (pure (Value.bool b)) _ _ _
  exact wpAny_pure (k _ s.heap s.toks (Ext.refl _) rfl)
theorem Ev.cnone {k : Nat} {pos : Pos} : Ev w A H env h (.Constant .none k pos) .none := fun s Q E e k => by
  show wpAny _ _ (pure Value.none) _ _ _
  exact wpAny_pure (k _ s.heap s.toks (Ext.refl _) rfl)
noncomputable def Nm (w : World) (A : Around) (env : Env) (h : Heap) (x : Str) (v : Value) : Prop := ∀ pos, Gv w A h (eval (.Name x pos) env) (fun u _ => u = v)
theorem Ev.name {x : Str} {v : Value} {d : D} {pos : Pos} (n : Nm w A env h x v) (r : Rd H h d v) : Ev w A H env h (.Name x pos) d := fun s Q E e k =>
  n pos s Q E e fun u h' tk x' q => k u h' tk x' (q ▸ (r.ext e).ext x')
theorem Nm.local {x : Str} {m : Str → Option Value} {v : Value} (n : h.Ns env.locals m) (hv : m x = some v) (hk : env.scope.kind = .function := by rfl) (hl : env.kindOf x = some .local := by rfl) (hd : (x == ("__debug__" : Str)) = false := by decide) : Nm w A env h x v :=
  fun pos s Q E e k => wpAny_Name (wpAny_loadName_local hk hl (n.at' fun o q => e _ _ q) hv (k _ s.heap s.toks (Ext.refl _) rfl)) hd
theorem Nm.cell {x : Str} {c : Addr} {v : Value} (hc : env.cells.lookup x = some c) (n : h.IsCell c (some v)) (hk : env.scope.kind = .function := by rfl) (hl : env.kindOf x = some .cell := by rfl) (hd : (x == ("__debug__" : Str)) = false := by decide) : Nm w A env h x v :=
  fun pos s Q E e k => wpAny_Name (wpAny_loadName_cell hk hl hc (let ⟨o, a, b⟩ := n; ⟨o, e _ _ a, b⟩) (k _ s.heap s.toks (Ext.refl _) rfl)) hd
theorem Nm.global {x : Str} {v : Value} (g : Gd w mg mb h) (q : nsIn (KF w.params) mainGlobals x = some (some v)) (hg : env.globals = mainGlobals := by rfl) (hk : env.scope.kind = .function := by rfl) (hl : env.kindOf x = some .globalImplicit := by rfl) (hd : (x == ("__debug__" : Str)) = false := by decide) : Nm w A env h x v :=
  fun pos s Q E e k => Name_function_global hk hl (loadGlobal_global (env := env) (by rw [hg]; exact g.T.g.keeps e) (mg_of g.X g.T.g q) (k _ s.heap s.toks (Ext.refl _) rfl)) hd
theorem Nm.builtin {x : Str} {v : Value} (g : Gd w mg mb h) (q : nsIn (KF w.params) mainGlobals x = some none) (hb : bootBuiltins x = some v) (hn : x ≠ "__name__" := by decide) (hg : env.globals = mainGlobals := by rfl) (hbb : env.builtins = builtinsNs := by rfl) (hk : env.scope.kind = .function := by rfl) (hl : env.kindOf x = some .globalImplicit := by rfl) (hd : (x == ("__debug__" : Str)) = false := by decide) : Nm w A env h x v :=
  fun pos s Q E e k => Name_function_global hk hl (by
    have := g.T.builtins x hn
    refine loadGlobal_builtin (env := env) (by rw [hg]; exact g.T.g.keeps e) (mg_none_of g.X g.T.g q) (by rw [hbb]; exact g.T.b.keeps e) (this.trans hb) (k _ s.heap s.toks (Ext.refl _) rfl)) hd
end
section
variable {w : World} {A : Around} {h : Heap} {H : List Addr} {env : Env} {mg mb : Str → Option Value}
noncomputable def Ob (h : Heap) (x C : Addr) (af : Str → Option Value) : Prop := ∃ ox es n, InstAt h x ox C (some (dictOf es n)) ∧ ∀ name, getL name es = some (af name)
theorem InstAt.up {h h' : Heap} {x C : Addr} {ox : Obj} {od : Option Obj} (I : InstAt h x ox C od) (e : Ext h h') : InstAt h' x ox C od :=
  ⟨e _ _ I.at_, I.cls, I.no, by have := I.dict; revert this; cases ox.dict <;> cases od <;> first | exact id | exact fun q => e _ _ q⟩
theorem Ob.ext {h h' : Heap} {x C : Addr} {af : Str → Option Value} (o : Ob h x C af) (e : Ext h h') : Ob h' x C af := let ⟨ox, es, n, I, q⟩ := o; ⟨ox, es, n, InstAt.up I e, q⟩
noncomputable def ownOk (K : Frag) (C : Addr) (name : Str) : Bool := plainGet K C name && (hasDictIn K C && (match findIn K (.ref C) name with | some attr => noGet K attr | none => false))
theorem Ga.own {x C : Addr} {af : Str → Option Value} {name : Str} {v : Value} {b : Bool} (g : Gd w mg mb h) (o : Ob h x C af) (ha : af name = some v) (hk : ownOk (KF w.params) C name = true) (hv : handedIn v = true := by rfl) : Gv w A h (getAttr (.ref x) name b) (fun u _ => u = v) := fun s Q E e k => by
  obtain ⟨ox, es, n, I, q⟩ := o.ext e
  unfold ownOk at hk
  obtain ⟨k1, k2⟩ := Bool.and_eq_true_iff.mp hk
  obtain ⟨k2, k3⟩ := Bool.and_eq_true_iff.mp k2
  split at k3
  · rename_i attr hf
    exact get_value (g.X.keeps e) I (plainGet_of k1).1 (findObj_own k2 hf k3 ((q name).trans (by rw [ha]))) hv (k _ s.heap _ (Ext.refl _) rfl)
  · cases k3
noncomputable def methOk (K : Frag) (C : Addr) (name : Str) (f : Addr) : Bool := plainGet K C name && (findIn K (.ref C) name == some (some (.ref f)) && (isFn K (.ref f) && keepIn K (.ref f)))
theorem Gm.fn {x C f : Addr} {af : Str → Option Value} {name : Str} {pl : Sem Bool} (g : Gd w mg mb h) (o : Ob h x C af) (ha : af name = none) (hk : methOk (KF w.params) C name f = true) : Gv w A h (getMethod (.ref x) name pl) (fun u _ => u = (.ref f, [.ref x])) := fun s Q E e k => by
  obtain ⟨ox, es, n, I, q⟩ := o.ext e
  unfold methOk at hk
  obtain ⟨k1, k2⟩ := Bool.and_eq_true_iff.mp hk
  obtain ⟨k2, k3⟩ := Bool.and_eq_true_iff.mp k2
  obtain ⟨k3, k4⟩ := Bool.and_eq_true_iff.mp k3
  have hl : getL name es = some none := (q name).trans (by rw [ha])
  exact method_fn (g.X.keeps e) I (plainGet_of k1).1 (plainGet_of k1).2 (beq_iff_eq.mp k2) (beq_iff_eq.mp k3) (by show (lookIn name (dictOf es n)).map _ = _; rw [lookIn_dict, hl]; rfl) (k _ s.heap s.toks (Ext.refl _) rfl)
theorem Ev.attr {e : Expr} {name : Str} {pos : Pos} {x C : Addr} {af : Str → Option Value} {v : Value} {d : D} (g : Gd w mg mb h) (he : Ev w A H env h e (.obj x)) (o : Ob h x C af) (ha : af name = some v) (hd : Rd H h d v) (hk : ownOk (KF w.params) C name = true) (hv : handedIn v = true := by rfl)
    (hs : eval (.Attribute e name pos) env = (do let o ← eval e env; standAt (Pos.atName pos); let r ← holding [o] (getAttr o name true); letTemporaryGo e o r; pure r) := by rfl) : Ev w A H env h (.Attribute e name pos) d := fun s Q E ee k =>
  Attribute_any_ (he s _ E ee fun u h1 tk x1 r => by
    cases r
    exact Ga.own g o ha hk hv _ Q E (ee.trans x1) fun v' h2 tk2 x2 q => k _ h2 tk2 (x1.trans x2) (q ▸ (hd.ext (ee.trans (x1.trans x2))))) hs
inductive Es (w : World) (A : Around) (H : List Addr) (env : Env) (h : Heap) : List Expr → List D → Prop
  | nil : Es w A H env h [] []
  | cons {e : Expr} {r : List Expr} {d : D} {ds : List D} : Ev w A H env h e d → Es w A H env h r ds → starEach (e :: r) env = (false, eval e env) :: starEach r env → Es w A H env h (e :: r) (d :: ds)
theorem Es.go {pos : Pos} {es : List Expr} {ds : List D} (x : Es w A H env h es ds) : Gv w A h (spliced (backTo pos (starEach es env))) (fun vs h' => RdAll H h' ds vs) := by
  induction x with
  | nil => exact fun s Q E e k => spliced_nil (k _ s.heap s.toks (Ext.refl _) rfl)
  | cons he _ hs ih =>
    rw [hs]
    intro s Q E e k
    refine spliced_cons (he s _ E e fun v h1 tk x1 r1 => ih _ _ E (e.trans x1) fun vs h2 tk2 x2 r2 => k _ h2 tk2 (x1.trans x2) ⟨v, vs, rfl, r1.ext x2, r2⟩)
theorem Es.plain {pos : Pos} {es : List Expr} {ds : List D} (x : Es w A H env h es ds) : (backTo pos (starEach es env)).any (·.1) = false := by
  induction x with
  | nil => rfl
  | cons he _ hs ih => rw [hs]; exact ih
noncomputable def Fn (w : World) (k : Nat) (H : List Addr) (h : Heap) (f : Addr) (ds : List D) (d : D) : Prop :=
  ∀ A h₁ vs, Rm A k → Ext h h₁ → RdAll H h₁ ds vs → Gv w A h₁ (call (.ref f) vs) (fun v h' => Rd H h' d v)
theorem callK {pos : Pos} {f : Value} {first : List Value} {es : List Expr} {ds : List D} {P : Value → Heap → Prop} (g : Gd w mg mb h) (hk : keepIn (KF w.params) f = true) (a : Es w A H env h es ds)
    (c : ∀ vs h₁, Ext h h₁ → RdAll H h₁ ds vs → Gv w A h₁ (call f (first ++ vs)) P) : Gv w A h (callWith pos f first (backTo pos (starEach es env)) []) P := fun s Q E e k => by
  refine callWith_of (P := fun h' => (KF w.params).In h') (by rw [a.plain]; rfl) (keeps_K hk) ?_
  cases a with
  | nil => exact evalArgs_nil3 ⟨g.X.keeps e, c [] h (Ext.refl _) rfl s Q E e k⟩
  | cons he r hs =>
    have go := (Es.cons he r hs).go (pos := pos)
    rw [hs] at go ⊢
    exact evalArgs_plain (go s _ E e fun vs h1 tk x1 r1 => ⟨g.X.keeps (e.trans x1), c vs h1 (e.trans x1) r1 _ Q E (Ext.refl _) fun v h2 tk2 x2 p => k v h2 tk2 (x1.trans x2) p⟩)
theorem Ev.meth {o : Expr} {name : Str} {apos pos : Pos} {es : List Expr} {ds : List D} {x C f : Addr} {af : Str → Option Value} {k : Nat} {d : D} (g : Gd w mg mb h) (hm : Rm A k) (he : Ev w A H env h o (.obj x)) (ob : Ob h x C af) (a : Es w A H env h es ds) (fn : Fn w k H h f (.obj x :: ds) d)
    (ha : af name = none) (hk : methOk (KF w.params) C name f = true) {pl : Sem Bool}
    (hs : eval (.Call (.Attribute o name apos) es [] pos) env = (do let ov ← eval o env; standAt (Pos.atName apos); let (f, first) ← holding [ov] (getMethod ov name pl); callWith pos f first (backTo pos (starEach es env)) []) := by rfl) : Ev w A H env h (.Call (.Attribute o name apos) es [] pos) d := fun s Q E e k => by
  refine MethodCall_ (pl := pl) (he s _ E e fun u h1 tk x1 r => ?_) hs
  cases r
  refine Gm.fn g ob ha hk _ _ E (e.trans x1) fun u h2 tk2 x2 q => ?_
  subst q
  have hf : keepIn (KF w.params) (.ref f) = true := by
    unfold methOk at hk
    exact (Bool.and_eq_true_iff.mp (Bool.and_eq_true_iff.mp (Bool.and_eq_true_iff.mp hk).2).2).2
  exact callK g hf a (fun vs h3 e3 r3 => fn A h3 (.ref x :: vs) hm e3 ⟨_, vs, rfl, rfl, r3⟩) _ Q E (e.trans (x1.trans x2)) fun v h3 tk3 x3 p => k v h3 tk3 (x1.trans (x2.trans x3)) p
theorem Ev.call {f : Expr} {a : Addr} {pos : Pos} {es : List Expr} {ds : List D} {k : Nat} {d : D} (g : Gd w mg mb h) (hm : Rm A k) (he : Ev w A H env h f (.obj a)) (hk : keepIn (KF w.params) (.ref a) = true) (as : Es w A H env h es ds) (fn : Fn w k H h a ds d)
    (hs : eval (.Call f es [] pos) env = (do let __do_lift ← eval f env; callWith pos __do_lift [] (backTo pos (starEach es env)) (backToKw pos (keywordEach [] env))) := by rfl) : Ev w A H env h (.Call f es [] pos) d := fun s Q E e k =>
  Call_ (he s _ E e fun u h1 tk x1 r => by
    cases r
    exact callK (first := []) g hk as (fun vs h3 e3 r3 => fn A h3 vs hm e3 r3) _ Q E (e.trans x1) fun v h3 tk3 x3 p => k v h3 tk3 (x1.trans x3) p) hs
theorem ne_of_get {h : Heap} {b : Addr} {o : Obj} (e : h.get? b = some o) : b ≠ h.objs.size := fun q => by rw [q, get_new] at e; cases e
theorem Rd.newList {ds : List D} {vs : List Value} {x : Addr → Prop} (hd : Dm H h) (r : RdAll H h ds vs) : Rd H (h.push { cls := .type "list", data := .seq vs.toArray }) (.list ds) (.ref h.objs.size) :=
  ⟨_, vs, rfl, hd.new, ⟨_, Heap.get?_push_size _ rfl, rfl, _, rfl⟩, r.ext (Ext.push _ _)⟩
theorem Rd.newTup {ds : List D} {vs : List Value} (hd : Dm H h) (r : RdAll H h ds vs) : Rd H (h.push { cls := .type "tuple", data := .seq vs.toArray }) (.tup ds) (.ref h.objs.size) :=
  ⟨_, vs, rfl, hd.new, ⟨_, Heap.get?_push_size _ rfl, rfl, _, rfl⟩, r.ext (Ext.push _ _)⟩
theorem Ev.list {es : List Expr} {ds : List D} {pos : Pos} (hd : Dm H h) (a : Es w A H env h es ds) (hz : ds.length ≤ 1000 := by exact Nat.le_of_ble_eq_true rfl) : Ev w A H env h (.List es pos) (.list ds) := fun s Q E e k =>
  List_ (a.go s _ E e fun vs h1 tk x1 r => wpAny_newObj_type (k _ _ _ (x1.trans (Ext.push _ _)) (Rd.newList (x := fun _ => True) (hd.ext (e.trans x1)) r))
    (by show vs.toArray.size ≤ sizeLine; rw [List.size_toArray, r.length]; exact Nat.le_trans hz (by decide)))
theorem Ev.tup {es : List Expr} {ds : List D} {n : Nat} {pos : Pos} (hd : Dm H h) (a : Es w A H env h es ds) (hz : ds.length ≤ 1000 := by exact Nat.le_of_ble_eq_true rfl) : Ev w A H env h (.Tuple es n pos) (.tup ds) := fun s Q E e k =>
  Tuple_ (a.go s _ E e fun vs h1 tk x1 r => wpAny_newObj_type (k _ _ _ (x1.trans (Ext.push _ _)) (Rd.newTup (hd.ext (e.trans x1)) r))
    (by show vs.toArray.size ≤ sizeLine; rw [List.size_toArray, r.length]; exact Nat.le_trans hz (by decide)))
noncomputable def Bin (w : World) (A : Around) (H : List Addr) (h : Heap) (op : Operator) (a b d : D) : Prop :=
  ∀ u v h₁, Ext h h₁ → Rd H h₁ a u → Rd H h₁ b v → Gv w A h₁ (binaryOp op u v) (fun r h' => Rd H h' d r)
theorem Ev.bin {l r : Expr} {op : Operator} {pos : Pos} {a b d : D} (x : Ev w A H env h l a) (y : Ev w A H env h r b) (o : Bin w A H h op a b d) : Ev w A H env h (.BinOp l op r pos) d := fun s Q E e k =>
  wpAny_BinOp (x s _ E e fun u h1 tk1 x1 r1 => y _ _ E (e.trans x1) fun v h2 tk2 x2 r2 => o u v h2 (e.trans (x1.trans x2)) (r1.ext x2) r2 _ Q E (Ext.refl _) fun q h3 tk3 x3 r3 => k q h3 tk3 (x1.trans (x2.trans x3)) r3)
theorem Bin.add {a b : Int} : Bin w A H h .Add (.int a) (.int b) (.int (a + b)) := fun u v h₁ _ ⟨t, e1⟩ ⟨t', e2⟩ s Q E e k => by subst e1 e2; exact add_int (k _ s.heap _ (Ext.refl _) ⟨_, rfl⟩)
theorem Bin.sub {a b : Int} : Bin w A H h .Sub (.int a) (.int b) (.int (a - b)) := fun u v h₁ _ ⟨t, e1⟩ ⟨t', e2⟩ s Q E e k => by subst e1 e2; exact sub_int (k _ s.heap _ (Ext.refl _) ⟨_, rfl⟩)
theorem Bin.mul {a b : Int} (hm : IntMulOk a b) : Bin w A H h .Mult (.int a) (.int b) (.int (a * b)) := fun u v h₁ _ ⟨t, e1⟩ ⟨t', e2⟩ s Q E e k => by subst e1 e2; exact mul_int (k _ s.heap _ (Ext.refl _) ⟨_, rfl⟩) hm
theorem Bin.cat {a b : List D} (hd : Dm H h) (hz : a.length + b.length ≤ 100000) : Bin w A H h .Add (.list a) (.list b) (.list (a ++ b)) := fun u v h₁ e0 ⟨l, vs, e1, n1, hl, r1⟩ ⟨l', us, e2, n2, hl', r2⟩ s Q E e k => by
  subst e1 e2
  have hl := hl.at fun o q => e _ _ q
  have hl' := hl'.at fun o q => e _ _ q
  obtain ⟨⟨cls, dd, data, sl⟩, ho, hc, n, hda⟩ := id hl
  obtain ⟨⟨cls2, dd2, data2, sl2⟩, ho2, hc2, m, hda2⟩ := id hl'
  simp only at hc hda hc2 hda2
  subst hc hda hc2 hda2
  have e' : vs.toArray ++ us.toArray = (vs ++ us).toArray := by simp
  have hz2 : vs.toArray.size + us.toArray.size ≤ sizeLine := by
    rw [List.size_toArray, List.size_toArray, r1.length, r2.length]; exact Nat.le_trans hz (by decide)
  refine concat_meets ⟨_, ho, rfl⟩ ⟨_, ho2, rfl⟩ noFill_list_add seq_list_add PySem.F.slot_list_add PySem.F.entry_list_add (PySem.F.args_list_add_2 _ _) (list_addW l l' vs.toArray us.toArray n m dd dd2 sl sl2 hz2) ⟨ho, ho2, ?_⟩
  rw [e']
  exact k _ _ _ (Ext.push _ _) (Rd.newList (x := fun _ => True) (hd.ext (e0.trans e)) ((r1.ext e).app (r2.ext e)))
theorem Ev.neg {x : Expr} {pos : Pos} {a : Int} (y : Ev w A H env h x (.int a)) : Ev w A H env h (.UnaryOp .USub x pos) (.int (-a)) := fun s Q E e k =>
  UnaryOp_ (y s _ E e fun u h1 tk x1 ⟨t, q⟩ => by subst q; exact neg_int (k _ h1 _ x1 ⟨_, rfl⟩))
noncomputable def Cm (w : World) (A : Around) (H : List Addr) (h : Heap) (op : CmpOp) (a b : D) (c : Bool) : Prop :=
  ∀ u v h₁, Ext h h₁ → Rd H h₁ a u → Rd H h₁ b v → Gv w A h₁ (compareOp op u v) (fun r _ => r = .bool c)
theorem Ev.cmp {l r : Expr} {op : CmpOp} {pos : Pos} {a b : D} {c : Bool} (x : Ev w A H env h l a) (y : Ev w A H env h r b) (o : Cm w A H h op a b c) (hb : behindInMarks op r = false := by rfl) : Ev w A H env h (.Compare l [op] [r] pos) (.bool c) := fun s Q E e k =>
  wpAny_Compare1 (x s _ E e fun u h1 tk1 x1 r1 => y _ _ E (e.trans x1) fun v h2 tk2 x2 r2 => o u v h2 (e.trans (x1.trans x2)) (r1.ext x2) r2 _ Q E (Ext.refl _) fun q h3 tk3 x3 r3 => k q h3 tk3 (x1.trans (x2.trans x3)) r3) hb
theorem Et.cmp {l r : Expr} {op : CmpOp} {pos : Pos} {a b : D} {c : Bool} (x : Ev w A H env h l a) (y : Ev w A H env h r b) (o : Cm w A H h op a b c) (hb : behindInMarks op r = false := by rfl) : Et w A env h (.Compare l [op] [r] pos) c := fun s Q E e k =>
  wpAny_isTrue_Compare1 (x s _ E e fun u h1 tk1 x1 r1 => y _ _ E (e.trans x1) fun v h2 tk2 x2 r2 => o u v h2 (e.trans (x1.trans x2)) (r1.ext x2) r2 _ _ E (Ext.refl _) fun q h3 tk3 x3 r3 => by
    subst r3; exact wpAny_truthy_bool (k c h3 tk3 (x1.trans (x2.trans x3)) rfl)) hb
theorem Cm.eqI {a b : Int} : Cm w A H h .Eq (.int a) (.int b) (a == b) := fun u v h₁ _ ⟨t, e1⟩ ⟨t', e2⟩ s Q E e k => by subst e1 e2; exact eq_int (k _ s.heap s.toks (Ext.refl _) rfl)
theorem Cm.neI {a b : Int} : Cm w A H h .NotEq (.int a) (.int b) (a != b) := fun u v h₁ _ ⟨t, e1⟩ ⟨t', e2⟩ s Q E e k => by subst e1 e2; exact ne_int (k _ s.heap s.toks (Ext.refl _) rfl)
theorem Cm.ltI {a b : Int} : Cm w A H h .Lt (.int a) (.int b) (decide (a < b)) := fun u v h₁ _ ⟨t, e1⟩ ⟨t', e2⟩ s Q E e k => by subst e1 e2; exact lt_int (k _ s.heap s.toks (Ext.refl _) rfl)
theorem Cm.leI {a b : Int} : Cm w A H h .LtE (.int a) (.int b) (decide (a ≤ b)) := fun u v h₁ _ ⟨t, e1⟩ ⟨t', e2⟩ s Q E e k => by subst e1 e2; exact le_int (k _ s.heap s.toks (Ext.refl _) rfl)
theorem Cm.gtI {a b : Int} : Cm w A H h .Gt (.int a) (.int b) (decide (a > b)) := fun u v h₁ _ ⟨t, e1⟩ ⟨t', e2⟩ s Q E e k => by subst e1 e2; exact gt_int (k _ s.heap s.toks (Ext.refl _) rfl)
theorem Cm.eqS {a b : Str} : Cm w A H h .Eq (.str a) (.str b) (a == b) := fun u v h₁ _ ⟨t, e1⟩ ⟨t', e2⟩ s Q E e k => by subst e1 e2; exact eq_str (k _ s.heap s.toks (Ext.refl _) rfl)
theorem Cm.neS {a b : Str} : Cm w A H h .NotEq (.str a) (.str b) (a != b) := fun u v h₁ _ ⟨t, e1⟩ ⟨t', e2⟩ s Q E e k => by subst e1 e2; exact ne_str (k _ s.heap s.toks (Ext.refl _) rfl)
theorem Cm.eqB {a b : Bool} : Cm w A H h .Eq (.bool a) (.bool b) (a == b) := fun u v h₁ _ e1 e2 s Q E e k => by cases e1; cases e2; exact eq_bool (k _ s.heap s.toks (Ext.refl _) rfl)
noncomputable def At.d : At → D
  | .int i => .int i
  | .str s => .str s
  | .bool b => .bool b
theorem At.rd {a : At} {v : Value} : Rd H h a.d v ↔ a.v v := by cases a <;> exact Iff.rfl
noncomputable def At.kin : At → At → Bool
  | .int _, .int _ | .str _, .str _ | .bool _, .bool _ => true
  | _, _ => false
theorem At.eqAt {a b : At} {u v : Value} {s : Shared} (x : a.v u) (y : b.v v) (k : a.kin b = true) : EqAt A s u v (decide (a = b)) := by
  cases a <;> cases b <;> first | exact nomatch (show false = true from k) | skip
  · obtain ⟨t, rfl⟩ := x; obtain ⟨t', rfl⟩ := y
    rename_i i j
    have : decide (At.int i = At.int j) = (i == j) := by rw [Bool.eq_iff_iff]; simp
    rw [this]; exact EqAt.int_int _ _ _ _
  · obtain ⟨t, rfl⟩ := x; obtain ⟨t', rfl⟩ := y
    rename_i i j
    have : decide (At.str i = At.str j) = (i == j) := by rw [Bool.eq_iff_iff]; simp
    rw [this]; exact EqAt.str_str _ _ _ _
  · cases x; cases y
    rename_i i j
    have : decide (At.bool i = At.bool j) = (i == j) := by rw [Bool.eq_iff_iff]; simp
    rw [this]; exact EqAt.bool_bool _ _
noncomputable def pickAt (as : List At) (x : At) : Value → Bool := fun v => match v with
  | .int i _ => decide (At.int i = x)
  | .str s _ => decide (At.str s = x)
  | .bool b => decide (At.bool b = x)
  | _ => false
theorem pickAt_of {as : List At} {x a : At} {v : Value} (r : a.v v) : pickAt as x v = decide (a = x) := by
  cases a
  · obtain ⟨t, rfl⟩ := r; rfl
  · obtain ⟨t, rfl⟩ := r; rfl
  · cases r; rfl
theorem any_pick {as : List At} {x : At} {l : List At} : ∀ {vs : List Value}, RdAll H h (l.map At.d) vs → vs.any (pickAt as x) = decide (x ∈ l) := by
  induction l with
  | nil => intro vs r; cases r; rfl
  | cons a l ih =>
    intro vs r
    obtain ⟨v, r', rfl, p, q⟩ := r
    rw [List.any_cons, pickAt_of (At.rd.mp p), ih q, Bool.eq_iff_iff, Bool.or_eq_true, decide_eq_true_iff, decide_eq_true_iff, decide_eq_true_iff, List.mem_cons]
    exact ⟨fun z => z.imp (·.symm) id, fun z => z.imp (·.symm) id⟩
theorem mem_at {l : List At} : ∀ {vs : List Value}, RdAll H h (l.map At.d) vs → ∀ y ∈ vs, ∃ a ∈ l, a.v y := by
  induction l with
  | nil => intro vs r y hy; cases r; cases hy
  | cons a l ih =>
    intro vs r y hy
    obtain ⟨v, r', rfl, p, q⟩ := r
    rcases List.mem_cons.mp hy with rfl | hy
    · exact ⟨a, .head _, At.rd.mp p⟩
    · obtain ⟨b, hb, z⟩ := ih q y hy; exact ⟨b, .tail _ hb, z⟩
theorem Cm.inL {x : At} {l : List At} (hk : ∀ a ∈ l, a.kin x = true) : Cm w A H h .In x.d (.list (l.map At.d)) (decide (x ∈ l)) := fun u v h₁ _ r1 ⟨a, vs, e2, n, hl, r2⟩ s Q E e k => by
  subst e2
  refine in_listAt (pickAt l x) (hl.at fun o q => e _ _ q) (fun y hy => ?_) (k _ s.heap s.toks (Ext.refl _) ?_)
  · obtain ⟨b, hb, z⟩ := mem_at r2 y (by simpa using hy)
    rw [pickAt_of z]; exact At.eqAt z (At.rd.mp r1) (hk b hb)
  · rw [← any_pick (as := l) r2, List.any_toArray]
theorem Cm.notInL {x : At} {l : List At} (hk : ∀ a ∈ l, a.kin x = true) : Cm w A H h .NotIn x.d (.list (l.map At.d)) (!decide (x ∈ l)) := fun u v h₁ _ r1 ⟨a, vs, e2, n, hl, r2⟩ s Q E e k => by
  subst e2
  refine notIn_listAt (pickAt l x) (hl.at fun o q => e _ _ q) (fun y hy => ?_) (k _ s.heap s.toks (Ext.refl _) ?_)
  · obtain ⟨b, hb, z⟩ := mem_at r2 y (by simpa using hy)
    rw [pickAt_of z]; exact At.eqAt z (At.rd.mp r1) (hk b hb)
  · rw [← any_pick (as := l) r2, List.any_toArray]
theorem Cm.inT {x : At} {l : List At} (hk : ∀ a ∈ l, a.kin x = true) : Cm w A H h .In x.d (.tup (l.map At.d)) (decide (x ∈ l)) := fun u v h₁ _ r1 ⟨a, vs, e2, n, hl, r2⟩ s Q E e k => by
  subst e2
  refine in_tupleAt (pickAt l x) (let ⟨o, q, r⟩ := hl; ⟨o, e _ _ q, r⟩) (fun y hy => ?_) (k _ s.heap s.toks (Ext.refl _) ?_)
  · obtain ⟨b, hb, z⟩ := mem_at r2 y (by simpa using hy)
    rw [pickAt_of z]; exact At.eqAt z (At.rd.mp r1) (hk b hb)
  · rw [← any_pick (as := l) r2, List.any_toArray]
theorem RdAll.ints {ns : List Int} : ∀ {vs : List Value}, RdAll H h (ns.map D.int) vs → IntsAre vs ns := by
  induction ns with
  | nil => intro vs r; cases r; exact .nil
  | cons n ns ih => intro vs r; obtain ⟨v, r', rfl, ⟨t, rfl⟩, q⟩ := r; exact .cons n t (ih q)
theorem RdAll.of_ints {ns : List Int} {vs : List Value} (i : IntsAre vs ns) : RdAll H h (ns.map D.int) vs := by
  induction i with
  | nil => rfl
  | cons k t _ ih => exact ⟨_, _, rfl, ⟨_, rfl⟩, ih⟩
theorem Cm.eqL {ns ms : List Int} {k : Nat} (hm : Rm A k) : Cm w A H h .Eq (.list (ns.map D.int)) (.list (ms.map D.int)) (decide (ns = ms)) := fun u v h₁ _ ⟨a, vs, e1, n1, hl, r1⟩ ⟨b, us, e2, n2, hl', r2⟩ s Q E e k => by
  subst e1 e2
  exact eq_intsK (hl.at fun o q => e _ _ q) r1.ints (hl'.at fun o q => e _ _ q) r2.ints (by have := hm.u64; omega) (k _ s.heap s.toks (Ext.refl _) rfl)
theorem Cm.eqNil {l : List D} (hm : A.units < cLine) : Cm w A H h .Eq (.list l) (.list []) l.isEmpty := fun u v h₁ _ ⟨a, vs, e1, n1, hl, r1⟩ ⟨b, us, e2, n2, hl', r2⟩ s Q E e k => by
  subst e1 e2
  cases r2
  have hl := hl.at fun o q => e _ _ q
  have hl' := hl'.at fun o q => e _ _ q
  cases l with
  | nil => cases r1; exact eq_listAt (e := fun _ => true) hl hl' rfl hm (fun j h1 => absurd h1 (Nat.not_lt_zero _)) (k _ s.heap s.toks (Ext.refl _) rfl)
  | cons d ds => obtain ⟨v, r, rfl, _⟩ := r1; exact eq_list_lengthsAt hl hl' (by simp) hm (k _ s.heap s.toks (Ext.refl _) rfl)
noncomputable def D.isNone : D → Bool
  | .none => true
  | _ => false
theorem Rd.none_iff {d : D} {v : Value} (r : Rd H h d v) : (v == .none) = d.isNone := by
  cases d with
  | none => cases r; rfl
  | int i => obtain ⟨t, rfl⟩ := r; rfl
  | str i => obtain ⟨t, rfl⟩ := r; rfl
  | bool b => cases r; rfl
  | obj a => cases r; rfl
  | typ T => cases r; rfl
  | tab kv => obtain ⟨a, rfl, _⟩ := r; rfl
  | list l => obtain ⟨a, vs, rfl, _⟩ := r; rfl
  | tup l => obtain ⟨a, vs, rfl, _⟩ := r; rfl
theorem plainIs_none (v : Value) (hv : ∀ n, v ≠ .builtin n) : plainIs v .none = true := by cases v <;> first | rfl | exact absurd rfl (hv _)
theorem Rd.noBuiltin {d : D} {v : Value} (r : Rd H h d v) (n : String) : v ≠ .builtin n := by
  cases d with
  | none => cases r; intro x; cases x
  | int i => obtain ⟨t, rfl⟩ := r; intro x; cases x
  | str i => obtain ⟨t, rfl⟩ := r; intro x; cases x
  | bool b => cases r; intro x; cases x
  | obj a => cases r; intro x; cases x
  | typ T => cases r; intro x; cases x
  | tab kv => obtain ⟨a, rfl, _⟩ := r; intro x; cases x
  | list l => obtain ⟨a, vs, rfl, _⟩ := r; intro x; cases x
  | tup l => obtain ⟨a, vs, rfl, _⟩ := r; intro x; cases x
theorem Cm.isNot {d : D} : Cm w A H h .IsNot d .none (!d.isNone) := fun u v h₁ _ r1 e2 s Q E e k => by
  cases e2
  exact wpAny_isNot_plain (plainIs_none u r1.noBuiltin) (by rw [r1.none_iff]; exact k _ s.heap s.toks (Ext.refl _) rfl)
noncomputable def D.truth : D → Option Bool
  | .bool b => some b
  | .none => some false
  | .int i => some (i != 0)
  | _ => Option.none
theorem truthD {d : D} {b : Bool} (q : d.truth = some b) : ∀ {v : Value}, Rd H h d v → Gv w A h (truthy v) (fun c _ => c = b) := fun {v} r s Q E e k => by
  cases d with
  | bool c => cases r; cases q; exact wpAny_truthy_bool (k _ s.heap s.toks (Ext.refl _) rfl)
  | int i => obtain ⟨t, rfl⟩ := r; cases q; exact truthy_int (k _ s.heap s.toks (Ext.refl _) rfl)
  | none => cases r; cases q; show wpAny _ _ (pure false) _ _ _; exact wpAny_pure (k _ s.heap s.toks (Ext.refl _) rfl)
  | _ => cases q
theorem Et.plain {e : Expr} {d : D} {b : Bool} (x : Ev w A H env h e d) (q : d.truth = some b)
    (hp : PySem.isTrue e env (eval e env) = (do let v ← eval e env; standAt (Expr.pos e); holding [v] (truthy v)) := by rfl) : Et w A env h e b := fun s Q E ee k =>
  isTrue_plain (x s _ E ee fun v h1 tk x1 r => truthD (w := w) (A := A) q r _ _ E (Ext.refl _) fun c h2 tk2 x2 z => k c h2 tk2 (x1.trans x2) z) hp
theorem Et.not {e : Expr} {b : Bool} {pos : Pos} (x : Et w A env h e b) : Et w A env h (.UnaryOp .Not e pos) (!b) := fun s Q E ee k => isTrue_not (x s _ E ee fun v h1 tk x1 r => k _ h1 tk x1 (by rw [r]))
theorem Ev.not {e : Expr} {b : Bool} {d : D} {pos : Pos} (x : Ev w A H env h e d) (q : d.truth = some b) : Ev w A H env h (.UnaryOp .Not e pos) (.bool !b) := fun s Q E ee k =>
  UnaryOp_ (x s _ E ee fun v h1 tk x1 r => not_of (truthD (w := w) (A := A) q r _ _ E (Ext.refl _) fun c h2 tk2 x2 z => k _ h2 tk2 (x1.trans x2) (by rw [z]; rfl)))
theorem Ev.ite {t a b : Expr} {c : Bool} {d : D} {pos : Pos} (x : Et w A env h t c) (y : c = true → Ev w A H env h a d) (z : c = false → Ev w A H env h b d) : Ev w A H env h (.IfExp t a b pos) d := fun s Q E ee k =>
  IfExp_ (x s _ E ee fun v h1 tk x1 r => by
    subst r
    cases v with
    | true => rw [if_pos rfl]; exact y rfl _ Q E (ee.trans x1) fun v h2 tk2 x2 r2 => k v h2 tk2 (x1.trans x2) r2
    | false => rw [if_neg (by decide)]; exact z rfl _ Q E (ee.trans x1) fun v h2 tk2 x2 r2 => k v h2 tk2 (x1.trans x2) r2)
theorem Ev.and2 {l r : Expr} {pos : Pos} {a : D} {c : Bool} {d : D} (x : Ev w A H env h l a) (q : a.truth = some c) (y : c = true → Ev w A H env h r d) (z : c = false → d = a) : Ev w A H env h (.BoolOp .And [l, r] pos) d := fun s Q E ee k =>
  BoolOp_and (x s _ E ee fun v h1 tk x1 r1 => truthD (w := w) (A := A) q r1 _ _ E (Ext.refl _) fun c' h2 tk2 x2 e2 => by
    subst e2
    cases c' with
    | true => rw [if_pos rfl]; exact BoolOp_one (y rfl _ Q E (ee.trans (x1.trans x2)) fun v h3 tk3 x3 r3 => k v h3 tk3 (x1.trans (x2.trans x3)) r3)
    | false => rw [if_neg (by decide)]; exact k v h2 tk2 (x1.trans x2) (z rfl ▸ r1.ext x2))
theorem Ev.or2 {l r : Expr} {pos : Pos} {a : D} {c : Bool} {d : D} (x : Ev w A H env h l a) (q : a.truth = some c) (y : c = false → Ev w A H env h r d) (z : c = true → d = a) : Ev w A H env h (.BoolOp .Or [l, r] pos) d := fun s Q E ee k =>
  BoolOp_or (x s _ E ee fun v h1 tk x1 r1 => truthD (w := w) (A := A) q r1 _ _ E (Ext.refl _) fun c' h2 tk2 x2 e2 => by
    subst e2
    cases c' with
    | false => rw [if_neg (by decide)]; exact BoolOp_one (y rfl _ Q E (ee.trans (x1.trans x2)) fun v h3 tk3 x3 r3 => k v h3 tk3 (x1.trans (x2.trans x3)) r3)
    | true => rw [if_pos rfl]; exact k v h2 tk2 (x1.trans x2) (z rfl ▸ r1.ext x2))
theorem Ev.itemL {v i : Expr} {pos : Pos} {ds : List D} {k : Int} {d : D} (x : Ev w A H env h v (.list ds)) (y : Ev w A H env h i (.int k)) (h0 : 0 ≤ k) (q : ds[k.toNat]? = some d) (hb : k < 2 ^ 63)
    (hs : ∀ a t, subscripted i false (.ref a) (.int k t) = operate [.ref a, .int k t] (getItem (.ref a) (.int k t)) := by intro _ _; rfl) : Ev w A H env h (.Subscript v i pos) d := fun s Q E e k' =>
  Subscript_ (x s _ E e fun u h1 tk1 x1 ⟨a, vs, e1, n1, hl, r1⟩ => y _ _ E (e.trans x1) fun u2 h2 tk2 x2 ⟨t, e2⟩ => by
    subst e1 e2
    have hl := hl.at fun o q => x2 _ _ q
    obtain ⟨z, z1, z2⟩ := r1.get k.toNat q
    exact tail_any (s := { s with heap := h2, toks := tk2 }) hl.typeIs slot_list_getitem.lookup (wpAny_getItem_list hl h0 hb (by simpa using z1) (k' z h2 tk2 (x1.trans x2) (z2.ext x2))) (hs a t))
theorem Ev.itemT {v i : Expr} {pos : Pos} {ds : List D} {k : Int} {j : Nat} {d : D} (x : Ev w A H env h v (.tup ds)) (y : Ev w A H env h i (.int k)) (hj : seqIndex? k ds.length = some j) (q : ds[j]? = some d) (hb : -(2 ^ 63) ≤ k := by decide) (hb' : k < 2 ^ 63 := by decide)
    (hs : ∀ a t, subscripted i false (.ref a) (.int k t) = operate [.ref a, .int k t] (getItem (.ref a) (.int k t)) := by intro _ _; rfl) : Ev w A H env h (.Subscript v i pos) d := fun s Q E e k' =>
  Subscript_ (x s _ E e fun u h1 tk1 x1 ⟨a, vs, e1, n1, hl, r1⟩ => y _ _ E (e.trans x1) fun u2 h2 tk2 x2 ⟨t, e2⟩ => by
    subst e1 e2
    have hl : IsTup h2 a vs.toArray := let ⟨o, q, r⟩ := hl; ⟨o, x2 _ _ q, r⟩
    obtain ⟨z, z1, z2⟩ := r1.get j q
    exact item_tupleT (s := { s with heap := h2, toks := tk2 }) hl hb hb' (by rw [r1.length]; exact hj) (by simpa using z1) (k' z h2 tk2 (x1.trans x2) (z2.ext x2)) (hs a t))
theorem Ev.callB {f : Expr} {id : String} {pos : Pos} {es : List Expr} {ds : List D} {d : D} (he : Gv w A h (eval f env) (fun u _ => u = .builtin id)) (as : Es w A H env h es ds)
    (c : ∀ vs h₁, Ext h h₁ → RdAll H h₁ ds vs → Gv w A h₁ (PySem.call (.builtin id) vs) (fun v h' => Rd H h' d v))
    (hs : eval (.Call f es [] pos) env = (do let __do_lift ← eval f env; callWith pos __do_lift [] (backTo pos (starEach es env)) (backToKw pos (keywordEach [] env))) := by rfl) : Ev w A H env h (.Call f es [] pos) d := fun s Q E e k =>
  Call_ (he s _ E e fun u h1 tk x1 r => by
    subst r
    refine Calls.callWith_builtin as.plain ?_
    cases as with
    | nil => exact evalArgs_nil3 (c [] h1 (e.trans x1) rfl _ Q E (Ext.refl _) fun v h2 tk2 x2 p => k v h2 tk2 (x1.trans x2) p)
    | cons he' r' hs' =>
      have go := (Es.cons he' r' hs').go (pos := pos)
      rw [hs'] at go ⊢
      exact evalArgs_plain (go _ _ E (e.trans x1) fun vs h2 tk2 x2 r2 => c vs h2 (e.trans (x1.trans x2)) r2 _ Q E (Ext.refl _) fun v h3 tk3 x3 p => k v h3 tk3 (x1.trans (x2.trans x3)) p)) hs
theorem Ev.callT {f : Expr} {T : String} {pos : Pos} {es : List Expr} {ds : List D} {d : D} (he : Gv w A h (eval f env) (fun u _ => u = .type T)) (as : Es w A H env h es ds)
    (c : ∀ vs h₁, Ext h h₁ → RdAll H h₁ ds vs → Gv w A h₁ (PySem.call (.type T) vs) (fun v h' => Rd H h' d v))
    (hs : eval (.Call f es [] pos) env = (do let __do_lift ← eval f env; callWith pos __do_lift [] (backTo pos (starEach es env)) (backToKw pos (keywordEach [] env))) := by rfl) : Ev w A H env h (.Call f es [] pos) d := fun s Q E e k =>
  Call_ (he s _ E e fun u h1 tk x1 r => by
    subst r
    refine PyProof.Rows.callWith_type as.plain ?_
    cases as with
    | nil => exact evalArgs_nil3 (c [] h1 (e.trans x1) rfl _ Q E (Ext.refl _) fun v h2 tk2 x2 p => k v h2 tk2 (x1.trans x2) p)
    | cons he' r' hs' =>
      have go := (Es.cons he' r' hs').go (pos := pos)
      rw [hs'] at go ⊢
      exact evalArgs_plain (go _ _ E (e.trans x1) fun vs h2 tk2 x2 r2 => c vs h2 (e.trans (x1.trans x2)) r2 _ Q E (Ext.refl _) fun v h3 tk3 x3 p => k v h3 tk3 (x1.trans (x2.trans x3)) p)) hs
theorem two {a b : D} {vs : List Value} {h₁ : Heap} (r : RdAll H h₁ [a, b] vs) : ∃ u v, vs = [u, v] ∧ Rd H h₁ a u ∧ Rd H h₁ b v := let ⟨u, _, e, p, v, _, e', q, z⟩ := r; ⟨u, v, by rw [e, e', z], p, q⟩
theorem one {a : D} {vs : List Value} {h₁ : Heap} (r : RdAll H h₁ [a] vs) : ∃ u, vs = [u] ∧ Rd H h₁ a u := let ⟨u, _, e, p, z⟩ := r; ⟨u, by rw [e, z], p⟩
noncomputable abbrev CB (w : World) (A : Around) (H : List Addr) (h : Heap) (id : String) (ds : List D) (d : D) : Prop := ∀ vs h₁, Ext h h₁ → RdAll H h₁ ds vs → Gv w A h₁ (PySem.call (.builtin id) vs) (fun v h' => Rd H h' d v)
theorem CB.lenL {ds : List D} (hz : ds.length < 2 ^ 63) : CB w A H h "len" [.list ds] (.int ds.length) := fun vs h₁ _ r s Q E e k => by
  obtain ⟨u, rfl, a, ws, rfl, n, hl, q⟩ := one r
  have z : (ws.toArray.size : Int) = ds.length := by rw [List.size_toArray, q.length]
  exact call_len_list (hl.at fun o q => e _ _ q) (by rw [z]; exact_mod_cast hz) (by rw [z]; exact k _ s.heap _ (Ext.refl _) ⟨_, rfl⟩)
theorem CB.lenT {ds : List D} (hz : ds.length < 2 ^ 63) : CB w A H h "len" [.tup ds] (.int ds.length) := fun vs h₁ _ r s Q E e k => by
  obtain ⟨u, rfl, a, ws, rfl, n, hl, q⟩ := one r
  have z : (ws.toArray.size : Int) = ds.length := by rw [List.size_toArray, q.length]
  exact len_tuple (let ⟨o, q, r⟩ := hl; ⟨o, e _ _ q, r⟩) (by rw [z]; exact_mod_cast hz) (by rw [z]; exact k _ s.heap _ (Ext.refl _) ⟨_, rfl⟩)
theorem CB.abs {i : Int} : CB w A H h "abs" [.int i] (.int (if i < 0 then -i else i)) := fun vs h₁ _ r s Q E e k => by
  obtain ⟨u, rfl, t, rfl⟩ := one r
  exact call_abs_int fun u tk => k _ s.heap tk (Ext.refl _) ⟨_, rfl⟩
theorem CB.min {i j : Int} (hh : A.handled = none) : CB w A H h "min" [.int i, .int j] (.int (if j < i then j else i)) := fun vs h₁ _ r s Q E e k => by
  obtain ⟨u, v, rfl, ⟨t, rfl⟩, ⟨t', rfl⟩⟩ := two r
  refine min_two_ints hh fun h' tk hk => ?_
  by_cases c : j < i
  · rw [if_pos c]; exact k _ h' tk hk (by rw [if_pos c]; exact ⟨_, rfl⟩)
  · rw [if_neg c]; exact k _ h' tk hk (by rw [if_neg c]; exact ⟨_, rfl⟩)
theorem CB.max {i j : Int} (hh : A.handled = none) : CB w A H h "max" [.int i, .int j] (.int (if j > i then j else i)) := fun vs h₁ _ r s Q E e k => by
  obtain ⟨u, v, rfl, ⟨t, rfl⟩, ⟨t', rfl⟩⟩ := two r
  refine max_two_ints hh fun h' tk hk => ?_
  by_cases c : j > i
  · rw [if_pos c]; exact k _ h' tk hk (by rw [if_pos c]; exact ⟨_, rfl⟩)
  · rw [if_neg c]; exact k _ h' tk hk (by rw [if_neg c]; exact ⟨_, rfl⟩)
noncomputable def srt (ns : List Int) : List Int := ns.mergeSort (fun a b => decide (a ≤ b))
theorem srt_unique {a b : List Int} (p : a.Perm b) (q : a.Pairwise (· ≤ ·)) : a = srt b := by
  refine List.Perm.eq_of_pairwise (le := (· ≤ ·)) (fun _ _ _ _ h1 h2 => Int.le_antisymm h1 h2) q ?_ (p.trans (List.mergeSort_perm _ _).symm)
  have := List.pairwise_mergeSort (le := fun a b : Int => decide (a ≤ b)) (fun a b c => by simp; omega) (fun a b => by simp; omega) b
  exact this.imp fun z => by simpa using z
theorem CB.sorted {ns : List Int} (hd : Dm H h) (hz : ns.length < 64) : CB w A H h "sorted" [.list (ns.map D.int)] (.list ((srt ns).map D.int)) := fun vs h₁ e0 r s Q E e k => by
  obtain ⟨u, rfl, a, ws, rfl, n, hl, q⟩ := one r
  refine sorted_ints (hl.at fun o q => e _ _ q) q.ints (by rw [q.length, List.length_map]; exact hz) fun out ns' a1 a2 a3 => ?_
  obtain ⟨ep, he⟩ := sortedAll_at s.heap ws out
  have hx : Ext s.heap (sortedAll s.heap ws out) := fun b o z => sortedAll_old z
  refine k _ _ s.toks hx ⟨_, out.toList, rfl, ?_, ⟨_, he, rfl, _, rfl⟩, ?_⟩
  · intro hm
    have := (hd.ext (e0.trans e)) _ hm
    cases q' : s.heap.get? (s.heap.objs.size + 1) with
    | none => exact this q'
    | some o => exact absurd (Heap.lt_size q') (Nat.not_lt.mpr (Nat.le_succ _))
  · rw [← srt_unique a2 a3]; exact RdAll.of_ints a1
noncomputable def IsItr (h : Heap) (I : Addr) : Prop := ∃ o, h.get? I = some o ∧ (o.cls = .type "list_iterator" ∨ o.cls = .type "tuple_iterator" ∨ o.cls = .type "range_iterator")
structure Itr (w : World) (A : Around) (H : List Addr) (ds : List D) (I : Addr) (fp : List Addr) (P : Nat → Value → Prop) (St : Nat → Heap → Prop) (h' : Heap) : Prop where
  W : Walks prg w A I fp [I] ds.length P St
  st : St 0 h'
  low : ∀ b ∈ fp, b < h'.objs.size
  rd : ∀ i v, P i v → ∃ d, ds[i]? = some d ∧ Rd (I :: H) h' d v
  own : ∀ i h, St i h → IsItr h I
  out : ∀ b ∈ fp, b = I ∨ b ∉ H
noncomputable def Src (w : World) (A : Around) (H : List Addr) (env : Env) (h : Heap) (iter : Expr) (ds : List D) : Prop :=
  ∀ (s : Shared) (Q : Value → Shared → Prop) (E : Value → Shared → Prop), Ext h s.heap →
    (∀ I fp P St h' tk, Ext s.heap h' → Itr w A H ds I fp P St h' → s.heap.get? I = none → Q (.ref I) { s with heap := h', toks := tk }) → wpAny (model prg w) A (eval iter env) (fun xv s₁ => wpAny (model prg w) A (pyIter xv) Q E s₁) E s
theorem fresh_of {h h' : Heap} (e : Ext h h') : h.get? h'.objs.size = none := by
  cases q : h.get? h'.objs.size with
  | none => rfl
  | some o => exact absurd (Heap.lt_size (e _ _ q)) (Nat.lt_irrefl _)
theorem Src.list {iter : Expr} {ds : List D} (hh : A.handled = none) (x : Ev w A H env h iter (.list ds)) : Src w A H env h iter ds := fun s Q E e k =>
  x s _ E e fun u h1 tk x1 ⟨a, vs, e1, n1, hl, r1⟩ => by
    subst e1
    obtain ⟨ol, hol, _⟩ := id hl
    have hne : a ≠ h1.objs.size := ne_of_get hol
    refine wpAny_pyIter_list (s := { s with heap := h1, toks := tk }) hl (k h1.objs.size [h1.objs.size, a] (fun i v => vs.toArray[i]? = some v) (fun i h => h.IsListIter h1.objs.size a i ∧ h.IsList a vs.toArray) _ tk (x1.trans (Ext.push _ _)) ⟨?_, ?_, ?_, ?_, ?_, ?_⟩ ?_)
    · have := Walks.list (prog := prg) (w := w) hh h1.objs.size a hne vs.toArray
      rw [show vs.toArray.size = ds.length by rw [List.size_toArray, r1.length]] at this; exact this
    · exact ⟨⟨_, Heap.get?_push_size _ rfl, rfl, rfl⟩, hl.at fun o q => Heap.get?_push_of_some _ q⟩
    · intro b hb
      rw [Heap.size_push]
      rcases List.mem_cons.mp hb with rfl | hb
      · exact Nat.lt_succ_self _
      · rw [List.mem_singleton.mp hb]; exact Nat.lt_succ_of_lt (Heap.lt_size hol)
    · intro i v hv
      have hv : vs[i]? = some v := by simpa using hv
      have hi : i < ds.length := by rw [← r1.length]; exact (List.getElem?_eq_some_iff.mp hv).1
      obtain ⟨v', q1, q2⟩ := r1.get i (d := ds[i]) (List.getElem?_eq_getElem hi)
      rw [hv] at q1; cases q1
      refine ⟨ds[i], List.getElem?_eq_getElem hi, q2.more (Ext.push _ _) fun b hb => ?_⟩
      rcases List.mem_cons.mp hb with hb | hb
      · rw [hb]; exact .inr (get_new _)
      · exact .inl hb
    · exact fun i h st => let ⟨o, a, b, c⟩ := st.1; ⟨o, a, .inl b⟩
    · exact fun b hb => (List.mem_cons.mp hb).imp id fun z => by rw [List.mem_singleton.mp z]; exact n1
    · exact fresh_of x1
theorem Src.tup {iter : Expr} {ds : List D} (hh : A.handled = none) (x : Ev w A H env h iter (.tup ds)) : Src w A H env h iter ds := fun s Q E e k =>
  x s _ E e fun u h1 tk x1 ⟨a, vs, e1, n1, hl, r1⟩ => by
    subst e1
    obtain ⟨ol, hol, hcl, hdt⟩ := id hl
    have hl' : h1.IsTuple a vs.toArray := hl
    have hne : a ≠ h1.objs.size := ne_of_get hol
    refine iter_tuple (s := { s with heap := h1, toks := tk }) hl (k h1.objs.size [h1.objs.size, a] (fun i v => vs.toArray[i]? = some v) (fun i h => h.IsTupleIter h1.objs.size a i ∧ h.IsTuple a vs.toArray) _ tk (x1.trans (Ext.push _ _)) ⟨?_, ?_, ?_, ?_, ?_, ?_⟩ ?_)
    · have := Walks.tuple (prog := prg) (w := w) hh h1.objs.size a hne vs.toArray
      rw [show vs.toArray.size = ds.length by rw [List.size_toArray, r1.length]] at this; exact this
    · exact ⟨⟨_, Heap.get?_push_size _ rfl, rfl, rfl⟩, let ⟨o, q, r⟩ := hl'; ⟨o, Heap.get?_push_of_some _ q, r⟩⟩
    · intro b hb
      rw [Heap.size_push]
      rcases List.mem_cons.mp hb with rfl | hb
      · exact Nat.lt_succ_self _
      · rw [List.mem_singleton.mp hb]; exact Nat.lt_succ_of_lt (Heap.lt_size hol)
    · intro i v hv
      have hv : vs[i]? = some v := by simpa using hv
      have hi : i < ds.length := by rw [← r1.length]; exact (List.getElem?_eq_some_iff.mp hv).1
      obtain ⟨v', q1, q2⟩ := r1.get i (d := ds[i]) (List.getElem?_eq_getElem hi)
      rw [hv] at q1; cases q1
      refine ⟨ds[i], List.getElem?_eq_getElem hi, q2.more (Ext.push _ _) fun b hb => ?_⟩
      rcases List.mem_cons.mp hb with hb | hb
      · rw [hb]; exact .inr (get_new _)
      · exact .inl hb
    · exact fun i h st => let ⟨o, a, b, c⟩ := st.1; ⟨o, a, .inr (.inl b)⟩
    · exact fun b hb => (List.mem_cons.mp hb).imp id fun z => by rw [List.mem_singleton.mp z]; exact n1
    · exact fresh_of x1
theorem Src.range {f ne : Expr} {pos : Pos} {n : Nat} (hh : A.handled = none) (hf : Gv w A h (eval f env) (fun u _ => u = .type "range")) (x : Ev w A H env h ne (.int n)) (hz : n < 2 ^ 61) (hst : starEach [ne] env = (false, eval ne env) :: starEach [] env)
    (hs : eval (.Call f [ne] [] pos) env = (do let __do_lift ← eval f env; callWith pos __do_lift [] (backTo pos (starEach [ne] env)) (backToKw pos (keywordEach [] env))) := by rfl) : Src w A H env h (.Call f [ne] [] pos) ((List.range n).map fun i => D.int (i : Nat)) := fun s Q E e k =>
  Call_ (hf s _ E e fun u h1 tk x1 r => by
    subst r
    have as : Es w A H env h [ne] [.int n] := .cons x .nil hst
    refine PyProof.Rows.callWith_type as.plain ?_
    have go := as.go (pos := pos)
    rw [hst] at go ⊢
    refine evalArgs_plain (go _ _ E (e.trans x1) fun vs h2 tk2 x2 r2 => ?_)
    obtain ⟨v, rfl, t, rfl⟩ := one r2
    refine call_range_1 ?_
    have hsm : Builtin.Range.small 0 (n : Int) 1 = true := small_one (by decide) (by decide) (by omega) (by omega)
    refine wpAny_pyIter_range (IsRange.new _ _ _ _ _ _ _) hsm ?_
    have hsz : Builtin.Range.rangeSize 0 (n : Int) 1 = (n : Int) := by rw [rangeSize_one]; split <;> omega
    generalize hg : Heap.push h2 _ = h3
    have x3 : Ext h2 h3 := hg ▸ Ext.push _ _
    refine k h3.objs.size [h3.objs.size] (fun i v => i < n ∧ ∃ t, v = .int (0 + (i : Int) * 1) t) (fun i h => IsRangeIter h h3.objs.size (0 + (i : Nat) * 1) ((n : Int) - (i : Nat)) 1) _ _ (x1.trans (x2.trans (x3.trans (Ext.push _ _)))) ⟨?_, ?_, ?_, ?_, ?_, ?_⟩ ?_
    · have := (Walks.range (prog := prg) (w := w) hh h3.objs.size 0 1 n).bound
      rw [show ((List.range n).map fun i => D.int (i : Nat)).length = n by simp]; exact this
    · show IsRangeIter _ _ _ _ _
      rw [hsz]; simpa using Heap.get?_push_size _ rfl
    · intro b hb; rw [List.mem_singleton.mp hb, Heap.size_push]; exact Nat.lt_succ_self _
    · rintro i v ⟨hi, t, rfl⟩
      have hi : i < n := by simpa using hi
      exact ⟨.int i, by simp [hi], ⟨t, by simp⟩⟩
    · exact fun i h st => ⟨_, st, .inr (.inr rfl)⟩
    · exact fun b hb => .inl (List.mem_singleton.mp hb)
    · exact fresh_of (x1.trans (x2.trans x3))) hs
noncomputable def Bd (H : List Addr) (m : Str → Option Value) (h : Heap) : List Str → List D → Prop
  | [], [] => True
  | x :: xs, d :: ds => (∃ v, m x = some v ∧ Rd H h d v) ∧ Bd H m h xs ds
  | _, _ => False
theorem comp_turns {elt target iter : Expr} {ifs : List Expr} {scope : Scope} {pos : Pos} {it acc : Value} {env : Env} {R : Result → Shared → Prop} {s : Shared} (I : Nat → Shared → Prop)
    (turn : ∀ n s, I n s → wpAny (model prg w) A (pyNext it) (fun r s₁ => match r with
      | none => R (.ok .next) s₁
      | some v => wpAny (model prg w) A (letOwnedTupleGo target it v) (fun _ s₁' => wpAny (model prg w) A (assign target env v) (fun _ s₂ =>
          wpAny (model prg w) A (forIn ifs true fun c r => if r = true then do let ok ← PySem.isTrue c env (eval c env); pure (ForInStep.yield ok) else pure (ForInStep.yield r)) (fun ok s₃ =>
            if ok = true then wpAny (model prg w) A (eval elt env) (fun x s₄ =>
              wpAny (model prg w) A (PySem.call (.builtin "list.append") [acc, x]) (fun _ s₅ => ∃ m, m < n ∧ I m s₅) (notedBy (model prg w) A env fun e s' => R (.error e) s') s₄) (notedBy (model prg w) A env fun e s' => R (.error e) s') s₃
            else ∃ m, m < n ∧ I m s₃) (notedBy (model prg w) A env fun e s' => R (.error e) s') s₂) (notedBy (model prg w) A env fun e s' => R (.error e) s') s₁') (notedBy (model prg w) A env fun e s' => R (.error e) s') s₁) (notedBy (model prg w) A env fun e s' => R (.error e) s') s)
    (n : Nat) (h : I n s) : codeAny (model prg w) A (.compLoop (.ListComp elt [⟨target, iter, ifs, 0⟩] scope pos) 0 it acc env) R s := by
  refine codeAny_loop rfl I (fun n s hI => ?_) n h
  show wpAny _ A ((compTurn (.ListComp elt [⟨target, iter, ifs, 0⟩] scope pos) 0 it acc env).onRaise (fun x => do noteFrame x env; theTreesLotGoes x)) _ _ s
  refine wpAny_noted ?_
  rw [compTurn_list]
  refine wpAny_bind (wpAny_standAt (wpAny_bind (wpAny_mono (turn n s hI) (fun r s₁ h₁ => ?_) fun _ _ h' => h')))
  cases r with
  | none => exact wpAny_pure h₁
  | some v =>
    refine wpAny_bind (wpAny_mono h₁ (fun _ s₁' h₁' => ?_) fun _ _ h' => h')
    refine wpAny_bind (wpAny_mono h₁' (fun _ s₂ h₂ => wpAny_bind (wpAny_mono h₂ (fun ok s₃ h₃ => ?_) fun _ _ h' => h')) fun _ _ h' => h')
    cases ok with
    | false => exact wpAny_pure ⟨rfl, h₃⟩
    | true =>
      exact wpAny_bind (wpAny_bind (wpAny_mono h₃ (fun x s₄ h₄ => wpAny_bind (wpAny_mono h₄ (fun _ s₅ h₅ => wpAny_pure (wpAny_pure ⟨rfl, h₅⟩)) fun _ _ h' => h')) fun _ _ h' => h'))
inductive Ex5 {α β γ δ ε : Type} (p : α → β → γ → δ → ε → Prop) : Prop
  | mk (a : α) (b : β) (c : γ) (d : δ) (e : ε) (h : p a b c d e) : Ex5 p
inductive Ex6 {α β γ δ ε ζ : Type} (p : α → β → γ → δ → ε → ζ → Prop) : Prop
  | mk (a : α) (b : β) (c : γ) (d : δ) (e : ε) (f : ζ) (h : p a b c d e f) : Ex6 p
inductive C9 (a b c d e f g h i : Prop) : Prop
  | mk : a → b → c → d → e → f → g → h → i → C9 a b c d e f g h i
inductive C11 (a b c d e f g h i j k : Prop) : Prop
  | mk : a → b → c → d → e → f → g → h → i → j → k → C11 a b c d e f g h i j k
noncomputable def Binds (w : World) (A : Around) (H : List Addr) (env : Env) (target : Expr) (I : Addr) (d : D) (B : (Str → Option Value) → Heap → Prop) : Prop :=
  ∀ (s : Shared) (v : Value) (m : Str → Option Value) (Q : Unit → Shared → Prop) (E E' : Value → Shared → Prop), IsItr s.heap I → Rd H s.heap d v → s.heap.Ns env.locals m →
    (∀ h' tk m', ExtO [env.locals] s.heap h' → h'.Ns env.locals m' → B m' h' → Q () { s with heap := h', toks := tk }) →
    wpAny (model prg w) A (letOwnedTupleGo target (.ref I) v) (fun _ s₁ => wpAny (model prg w) A (assign target env v) Q E s₁) E' s
theorem Dm.step {H : List Addr} {a b : Heap} {X : List Addr} (d : Dm H a) (x : ExtO X a b) (q : ∀ c ∈ X, b.get? c ≠ none) : Dm H b := fun c hc z => by
  by_cases hx : c ∈ X
  · exact q c hx z
  · cases r : a.get? c with
    | none => exact d c hc r
    | some o => rw [x c o hx r] at z; cases z
theorem Ns.some {h : Heap} {C : Addr} {m : Str → Option Value} (n : h.Ns C m) : h.get? C ≠ none := fun z => by obtain ⟨o, _, _, e, _⟩ := n; rw [z] at e; cases e
theorem IsItr.some {h : Heap} {I : Addr} (n : IsItr h I) : h.get? I ≠ none := fun z => by obtain ⟨o, e, _⟩ := n; rw [z] at e; cases e
theorem comp_loop {elt target iter : Expr} {ifs : List Expr} {scope : Scope} {pos : Pos} {I Dx : Addr} {fp : List Addr} {P : Nat → Value → Prop} {St : Nat → Heap → Prop} {cenv : Env} {m : Str → Option Value} {ds : List D} {p : D → Bool} {f : D → D}
    {H' : List Addr} {R : Result → Shared → Prop} {s : Shared} {B : D → (Str → Option Value) → Heap → Prop}
    (W : Walks prg w A I fp [I] ds.length P St) (hst : St 0 s.heap) (hC : cenv.locals ∈ H') (hD : Dx ∈ H') (hI : I ∈ H') (hDC : Dx ≠ cenv.locals) (hDf : Dx ∉ fp) (hCf : cenv.locals ∉ fp)
    (hacc : s.heap.PlainList Dx #[]) (hns : s.heap.Ns cenv.locals m) (hdm : Dm H' s.heap)
    (hrd : ∀ i v, P i v → ∃ d, ds[i]? = some d ∧ Rd H' s.heap d v)
    (hIO : ∀ i h, St i h → IsItr h I)
    (hb : ∀ d ∈ ds, Binds w A H' cenv target I d (B d))
    (htest : ∀ d ∈ ds, ∀ h₂ m₂, ExtO [cenv.locals, Dx, I] s.heap h₂ → Dm H' h₂ → h₂.Ns cenv.locals m₂ → B d m₂ h₂ → Gv w A h₂ (forIn ifs true fun c r => if r = true then do let ok ← PySem.isTrue c cenv (eval c cenv); pure (ForInStep.yield ok) else pure (ForInStep.yield r)) (fun ok _ => ok = p d))
    (helt : ∀ d ∈ ds, p d = true → ∀ h₂ m₂, ExtO [cenv.locals, Dx, I] s.heap h₂ → Dm H' h₂ → h₂.Ns cenv.locals m₂ → B d m₂ h₂ → Ev w A H' cenv h₂ elt (f d))
    (hsz : ds.length ≤ 100000)
    (hR : ∀ h' tk m' ys, ExtO [cenv.locals, Dx, I] s.heap h' → h'.Ns cenv.locals m' → h'.PlainList Dx ys → RdAll H' h' ((ds.filter p).map f) ys.toList → R (.ok .next) { s with heap := h', toks := tk }) :
    codeAny (model prg w) A (.compLoop (.ListComp elt [⟨target, iter, ifs, 0⟩] scope pos) 0 (.ref I) (.ref Dx) cenv) R s := by
  have hCI : cenv.locals ≠ I := fun z => hCf (W.sub _ (by rw [z]; exact .head _))
  have hDI : Dx ≠ I := fun z => hDf (W.sub _ (by rw [z]; exact .head _))
  have toH : ∀ {a b : Heap}, ExtO [cenv.locals, Dx, I] a b → ExtO H' a b := fun q x o n e => q x o (fun z => by
    rcases List.mem_cons.mp z with z | z
    · exact n (z ▸ hC)
    · rcases List.mem_cons.mp z with z | z
      · exact n (z ▸ hD)
      · exact n (List.mem_singleton.mp z ▸ hI)) e
  refine comp_turns (fun k s' => Ex5 fun h' tk m' ys i => C9 (s' = { s with heap := h', toks := tk }) (St i h') (h'.PlainList Dx ys) (h'.Ns cenv.locals m') (RdAll H' h' (((ds.take i).filter p).map f) ys.toList) (i ≤ ds.length) (k = ds.length + 1 - i) (ExtO [cenv.locals, Dx, I] s.heap h') (Dm H' h')) ?_ (ds.length + 1)
    ⟨s.heap, s.toks, m, #[], 0, rfl, hst, hacc, hns, rfl, Nat.zero_le _, rfl, fun _ _ _ e => e, hdm⟩
  rintro k s' ⟨g, tk, m', ys, i, rfl, hst', hacc', hns', hrd', hi, rfl, hx, hdm'⟩
  have wO : ∀ {a b : Heap}, ExtO [I] a b → ExtO [cenv.locals, Dx, I] a b := fun q x o n e => q x o (fun z => n (by rw [List.mem_singleton.mp z]; exact .tail _ (.tail _ (.head _)))) e
  have cO : ∀ {a b : Heap}, ExtO [cenv.locals] a b → ExtO [cenv.locals, Dx, I] a b := fun q x o n e => q x o (fun z => n (by rw [List.mem_singleton.mp z]; exact .head _)) e
  by_cases hlt : i < ds.length
  · refine W.item i _ _ _ hlt hst' fun v h₁ tk₁ hPv hst₁ hk₁ => ?_
    obtain ⟨d, hd, hr⟩ := hrd i v hPv
    have hmem : d ∈ ds := List.mem_of_getElem? hd
    have x1 : ExtO [I] g h₁ := hk₁
    have hr1 : Rd H' h₁ d v := hr.off (toH (hx.trans (wO x1)))
    have hdm₁ : Dm H' h₁ := hdm'.step x1 fun c hc => by rw [List.mem_singleton.mp hc]; exact (hIO _ _ hst₁).some
    have hns₁ : h₁.Ns cenv.locals m' := hns'.at' fun o e => x1 _ o (fun z => hCI (List.mem_singleton.mp z)) e
    refine wpAny_mono (hb d hmem { s with heap := h₁, toks := tk₁ } v m' (fun _ s₂ => ∃ h₂ tk₂ m₂, s₂ = { s with heap := h₂, toks := tk₂ } ∧ ExtO [cenv.locals] h₁ h₂ ∧ h₂.Ns cenv.locals m₂ ∧ B d m₂ h₂) _ _ (hIO _ _ hst₁) hr1 hns₁ (fun h₂ tk₂ m₂ x2 hn2 hB => ⟨h₂, tk₂, m₂, rfl, x2, hn2, hB⟩)) (fun _ s₁' z => wpAny_mono z (fun _ s₂ z => ?_) fun _ _ e => e) fun _ _ e => e
    obtain ⟨h₂, tk₂, m₂, rfl, x2, hn2, hB⟩ := z
    have hx2 : ExtO [cenv.locals, Dx, I] s.heap h₂ := hx.trans ((wO x1).trans (cO x2))
    have hst₂ : St (i + 1) h₂ := W.frame _ _ _ hst₁ fun b hb o e => x2 b o (fun z => hCf (List.mem_singleton.mp z ▸ hb)) e
    have hacc₂ : h₂.PlainList Dx ys := (hacc'.at fun o e => x1 _ o (fun z => hDI (List.mem_singleton.mp z)) e).at fun o e => x2 _ o (fun z => hDC (List.mem_singleton.mp z)) e
    have hdm₂ : Dm H' h₂ := hdm₁.step x2 fun c hc => by rw [List.mem_singleton.mp hc]; exact Ns.some hn2
    have hrd₂ := hrd'.off (toH ((wO x1).trans (cO x2)))
    refine htest d hmem h₂ m₂ hx2 hdm₂ hn2 hB _ _ _ (Ext.refl _) fun ok h₃ tk₃ x3 hok => ?_
    subst hok
    have hst₃ : St (i + 1) h₃ := W.frame _ _ _ hst₂ fun b _ o e => x3 b o e
    have hacc₃ : h₃.PlainList Dx ys := hacc₂.at fun o e => x3 _ o e
    have htake : (ds.take (i + 1)).filter p = (ds.take i).filter p ++ (if p d then [d] else []) := take_succ_filter p ds i d hd
    cases hpd : p d with
    | false =>
      simp -iota only [Bool.false_eq_true, if_false]
      refine ⟨ds.length + 1 - (i + 1), by omega, h₃, tk₃, m₂, ys, i + 1, rfl, hst₃, hacc₃, hn2.keeps x3, ?_, hlt, rfl, fun b o n e => x3 b o (hx2 b o n e), hdm₂.ext x3⟩
      rw [htake, hpd]; simpa using hrd₂.ext x3
    | true =>
      simp -iota only [if_true]
      refine (helt d hmem hpd h₂ m₂ hx2 hdm₂ hn2 hB) _ _ _ x3 fun y h₄ tk₄ x4 hy => ?_
      have hys : ys.size ≤ sizeLine := by
        have e1 := hrd₂.length
        have e2 : (((ds.take i).filter p).map f).length ≤ ds.length := by
          rw [List.length_map]; exact Nat.le_trans (List.length_filter_le _ _) (by rw [List.length_take]; omega)
        have e3 : ys.toList.length = ys.size := by simp
        have : sizeLine = 2 ^ 24 := rfl
        omega
      refine wpAny_list_append_plain (s := { s with heap := h₄, toks := tk₄ }) (hsz := hys) (hacc₃.at fun o e => x4 _ o e) fun h₅ hl₅ hs₅ => ?_
      have x5 : ExtO [Dx] h₄ h₅ := fun b o n e => hs₅.extBut b o (fun z => n (z ▸ .head _)) e
      have x5' : ExtO [cenv.locals, Dx, I] h₄ h₅ := fun b o n e => x5 b o (fun z => n (by rw [List.mem_singleton.mp z]; exact .tail _ (.head _))) e
      have x25 : ExtO [cenv.locals, Dx, I] h₂ h₅ := fun b o n e => x5' b o n (x4 b o (x3 b o e))
      refine ⟨ds.length + 1 - (i + 1), by omega, h₅, tk₄, m₂, ys.push y, i + 1, rfl, ?_, hl₅, ((hn2.keeps x3).keeps x4).sameBut hs₅ (Ne.symm hDC), ?_, hlt, rfl, hx2.trans x25, ?_⟩
      · exact W.frame _ _ _ hst₃ fun b hb o e => hs₅.extBut b o (fun z => hDf (z ▸ hb)) (x4 b o e)
      · rw [htake, hpd]
        simp only [if_true, List.map_append, List.map_cons, List.map_nil, Array.toList_push]
        exact (hrd₂.off (toH x25)).snoc (hy.off (toH x5'))
      · exact ((hdm₂.ext x3).ext x4).step x5 fun c hc z => by obtain ⟨n, e⟩ := hl₅; rw [List.mem_singleton.mp hc] at z; rw [z] at e; cases e
  · have hin : i = ds.length := by omega
    subst hin
    refine W.done _ _ _ hst' fun h₁ tk₁ hk₁ => ?_
    have x1 : ExtO [I] g h₁ := hk₁
    refine hR h₁ tk₁ m' ys (hx.trans (wO x1)) (hns'.at' fun o e => x1 _ o (fun z => hCI (List.mem_singleton.mp z)) e) (hacc'.at fun o e => x1 _ o (fun z => hDI (List.mem_singleton.mp z)) e) ?_
    have := hrd'.off (toH (wO x1))
    rwa [List.take_length] at this
noncomputable def plainFrame (env : Env) : Prop := (env.scope.kind == .class || (env.scope.kind == .module && env.locals != env.globals)) = false
theorem plainFrame_of {env : Env} (hk : env.scope.kind = .function) : plainFrame env := by unfold plainFrame; rw [hk]; rfl
noncomputable abbrev upd (m : Str → Option Value) (x : Str) (v : Value) : Str → Option Value := fun y => if y = x then some v else m y
theorem store_name {x : Str} {px : Pos} {m : Str → Option Value} {v : Value} {s : Shared} {Q : Unit → Shared → Prop} {E : Value → Shared → Prop} (hk : env.scope.kind = .function) (hl : env.kindOf x = some .local) (hn : s.heap.Ns env.locals m)
    (k : ∀ h' tk, ExtO [env.locals] s.heap h' → h'.Ns env.locals (upd m x v) → Q () { s with heap := h', toks := tk }) : wpAny (model prg w) A (assign (.Name x px) env v) Q E s :=
  wpAny_assign_Name (wpAny_storeName_local hl hn (fun h' hn' hs => k h' _ (fun b o n e => hs.extBut b o (fun z => n (List.mem_singleton.mpr z)) e) hn') (plainFrame_of hk))
theorem Binds.name {x : Str} {px : Pos} {I : Addr} {d : D} (hk : env.scope.kind = .function) (hl : env.kindOf x = some .local) (hC : env.locals ∈ H) : Binds w A H env (.Name x px) I d (fun m h' => Bd H m h' [x] [d]) := fun s v m Q E E' hi hr hn k => by
  show wpAny _ _ (pure ()) _ _ _
  refine wpAny_pure (store_name hk hl hn fun h' tk x' n' => k h' tk _ x' n' ⟨⟨v, by simp, hr.off fun b o n e => x' b o (fun z => n (List.mem_singleton.mp z ▸ hC)) e⟩, trivial⟩)
theorem assign_names (hk : env.scope.kind = .function) (hC : env.locals ∈ H) : ∀ (xs : List (Str × Pos)) (ds : List D) (vs : List Value) (m : Str → Option Value) (s : Shared) (Q : Unit → Shared → Prop) (E : Value → Shared → Prop),
    (∀ x ∈ xs, env.kindOf x.1 = some .local) → (xs.map (·.1)).Nodup → xs.length = ds.length → RdAll H s.heap ds vs → s.heap.Ns env.locals m →
    (∀ h' tk m', ExtO [env.locals] s.heap h' → h'.Ns env.locals m' → Bd H m' h' (xs.map (·.1)) ds → (∀ y, y ∉ xs.map (·.1) → m' y = m y) → Q () { s with heap := h', toks := tk }) →
    wpAny (model prg w) A (assignInOrder (xs.map fun x => assign (.Name x.1 x.2) env) vs) Q E s
  | [], ds, vs, m, s, Q, E, _, _, hl, r, hn, k => by
    cases ds with
    | nil => cases r; exact assignInOrder_nil (k s.heap s.toks m (fun _ _ _ e => e) hn trivial fun _ _ => rfl)
    | cons _ _ => cases hl
  | x :: xs, ds, vs, m, s, Q, E, hloc, hnd, hl, r, hn, k => by
    cases ds with
    | nil => cases hl
    | cons d ds =>
      obtain ⟨v, vs', rfl, r1, r2⟩ := r
      rw [List.map_cons, List.nodup_cons] at hnd
      have tO : ∀ {a b : Heap}, ExtO [env.locals] a b → ExtO H a b := fun q b o n e => q b o (fun z => n (List.mem_singleton.mp z ▸ hC)) e
      refine assignInOrder_cons (store_name hk (hloc x (.head _)) hn fun h1 tk1 x1 n1 => ?_)
      refine assign_names hk hC xs ds vs' _ _ Q E (fun y hy => hloc y (.tail _ hy)) hnd.2 (by simpa using hl) (r2.off (tO x1)) n1 fun h2 tk2 m2 x2 n2 b2 o2 => ?_
      refine k h2 tk2 m2 (x1.trans x2) n2 ⟨⟨v, ?_, r1.off ((tO x1).trans (tO x2))⟩, b2⟩ fun y hy => ?_
      · rw [o2 x.1 hnd.1]; simp
      · rw [List.map_cons, List.mem_cons, not_or] at hy
        rw [o2 y hy.2]; simp [hy.1]
theorem Binds.tup {xs : List (Str × Pos)} {n : Nat} {tp : Pos} {I : Addr} {ds : List D} {es : List Expr} (hh : A.handled = none) (hk : env.scope.kind = .function) (hC : env.locals ∈ H) (hes : es = xs.map fun x => .Name x.1 x.2) (hloc : ∀ x ∈ xs, env.kindOf x.1 = some .local) (hnd : (xs.map (·.1)).Nodup) (hl : xs.length = ds.length)
    (hea : assignEach es env = xs.map fun x => (false, assign (.Name x.1 x.2) env)) : Binds w A H env (.Tuple es n tp) I (.tup ds) (fun m h' => Bd H m h' (xs.map (·.1)) ds) := fun s v m Q E E' ⟨oi, hoi, hci⟩ hr hn k => by
  obtain ⟨t, vs, rfl, hnt, ht, ra⟩ := hr
  have hlet : wpAny (model prg w) A (letOwnedTupleGo (.Tuple es n tp) (.ref I) (.ref t)) (fun _ s₁ => s₁ = s) E' s := by
    show wpAny _ _ (load I >>= _) _ _ _
    refine wpAny_bind (wpAny_load hoi ?_)
    obtain ⟨c, dd, dt, sl⟩ := oi
    simp only at hci
    rcases hci with rfl | rfl | rfl <;> cases dt <;> exact wpAny_pure rfl
  refine wpAny_mono hlet (fun _ s₁ e => ?_) fun _ _ e => e
  subst e
  refine assign_Tuple_tuple hh ht (by rw [hea]; simp [ra.length, hl]) (by rw [hea]; simp [List.findIdx?_eq_none_iff]) fun h1 he => ?_
  have x1 : Ext s₁.heap h1 := fun b o e => he b o (ne_of_get e) e
  rw [hea, List.map_map]
  exact assign_names hk hC xs ds vs m _ Q E hloc hnd hl (ra.ext x1) (hn.keeps x1) fun h2 tk2 m2 x2 n2 b2 _ => k h2 tk2 m2 (fun b o nn e => x2 b o nn (x1 b o e)) n2 b2
structure Turn (h : Heap) (H : List Addr) (C : Addr) (H' : List Addr) (h₂ : Heap) (m₂ : Str → Option Value) : Prop where
  ext : Ext h h₂
  dm : Dm H' h₂
  more : ∀ b, b ∈ H' → b ∈ H ∨ h.get? b = none
  sub : ∀ b, b ∈ H → b ∈ H'
  ns : h₂.Ns C m₂
  inC : C ∈ H'
  new : h.get? C = none
theorem comp_core {elt target iter : Expr} {ifs : List Expr} {scope : Scope} {cl : List (Str × Addr)} {pos : Pos} {ds : List D} {p : D → Bool} {f : D → D} {xs : List Str} {pt : D → List D}
    (hclos : closureFor scope env = pure cl) (hcell : ∀ y ∈ scope.names, y.2 ≠ .cell) (hkind : scope.kind = .function) (hnames : ∀ y ∈ scope.names, y.2 = .local → scope.names.lookup y.1 = some .local)
    (hdm : Dm H h) {s : Shared} {E : Value → Shared → Prop} {I : Addr} {fp : List Addr} {P : Nat → Value → Prop} {St : Nat → Heap → Prop} {h1 : Heap} {tk1 : Nat} (e : Ext h s.heap) (x1 : Ext s.heap h1) (it : Itr w A H ds I fp P St h1) (hIs : s.heap.get? I = none) {RR : Value → Addr → Result → Shared → Prop}
    (hb : ∀ C I H' d, d ∈ ds → C ∈ H' → Binds w A H' (compEnvC scope cl C env) target I d (fun m h' => Bd H' m h' xs (pt d)))
    (htest : ∀ C H' d h₂ m₂, d ∈ ds → Turn h H C H' h₂ m₂ → Bd H' m₂ h₂ xs (pt d) → Gv w A h₂ (forIn ifs true fun c r => if r = true then do let ok ← PySem.isTrue c (compEnvC scope cl C env) (eval c (compEnvC scope cl C env)); pure (ForInStep.yield ok) else pure (ForInStep.yield r)) (fun ok _ => ok = p d))
    (helt : ∀ C H' d h₂ m₂, d ∈ ds → p d = true → Turn h H C H' h₂ m₂ → Bd H' m₂ h₂ xs (pt d) → Ev w A H' (compEnvC scope cl C env) h₂ elt (f d))
    (hsz : ds.length ≤ 100000)
    (hRR : ∀ Dx C h' tk m' ys, Dx ≠ C → h1.get? Dx = none → h1.get? C = none → (∀ b o, b ≠ I → h1.get? b = some o → h'.get? b = some o) → h'.Ns C m' → h'.PlainList Dx ys → RdAll (C :: Dx :: I :: H) h' ((ds.filter p).map f) ys.toList → RR (.ref Dx) C (.ok .next) { s with heap := h', toks := tk }) :
    wpAny (model prg w) A (newList []) (fun acc s₃ => wpAny (model prg w) A (newFunctionEnv scope env.globals cl [] env.qual none .none (some env)) (fun cenv s₄ =>
      codeAny (model prg w) A (.compStart (.ListComp elt [⟨target, iter, ifs, 0⟩] scope pos) 0 (.ref I) acc { cenv with scope := relabel scope env }) (RR acc cenv.locals) s₄) E s₃) E { s with heap := h1, toks := tk1 } := by
  have hI : h.get? I = none := by
    cases q : h.get? I with
    | none => rfl
    | some o => rw [e I o q] at hIs; cases hIs
  have hfp : ∀ b ∈ fp, b < h1.objs.size := it.low
  refine wpAny_newObj_type (s := { s with heap := h1, toks := tk1 }) (wpAny_newFunctionEnv hcell (by intro y hy; simp at hy) (fun h₁ hns₁ hsb₁ => ?_) hkind)
  dsimp only at hns₁ hsb₁ ⊢
  generalize hH2 : h1.push { cls := .type "list", dict := none, data := .seq ([] : List Value).toArray } = H2 at hns₁ hsb₁ ⊢
  have hC : H2.objs.size = h1.objs.size + 1 := by rw [← hH2, Heap.size_push]
  have hDC : h1.objs.size ≠ H2.objs.size := by rw [hC]; exact Nat.ne_of_lt (Nat.lt_succ_self _)
  have below : ∀ b, b < h1.objs.size → b ≠ H2.objs.size ∧ b ≠ h1.objs.size := fun b hb => ⟨by rw [hC]; exact Nat.ne_of_lt (Nat.lt_succ_of_lt hb), Nat.ne_of_lt hb⟩
  have hDf : h1.objs.size ∉ fp := fun hm => Nat.lt_irrefl _ (hfp _ hm)
  have hCf : H2.objs.size ∉ fp := fun hm => by have := hfp _ hm; rw [hC] at this; exact Nat.lt_irrefl _ (Nat.lt_of_succ_lt this)
  have old : Ext h1 h₁ := fun b o e => hsb₁.extBut b o (below b (Heap.lt_size e)).1 (Heap.get?_push_of_some _ (hH2 ▸ Heap.get?_push_of_some _ e))
  have hacc : h₁.PlainList h1.objs.size #[] := ⟨_, hsb₁.extBut _ _ hDC (Heap.get?_push_of_some _ (hH2 ▸ Heap.get?_push_size _ rfl))⟩
  have hst₁ : St 0 h₁ := it.W.frame _ _ _ it.st fun b _ o e => old b o e
  have fresh : ∀ a, h1.objs.size ≤ a → h1.get? a = none := fun a ha => by
    cases e : h1.get? a with
    | none => rfl
    | some o' => exact absurd (Heap.lt_size e) (Nat.not_lt.mpr ha)
  have hCn : h1.get? H2.objs.size = none := fresh _ (by rw [hC]; exact Nat.le_succ _)
  have hDn : h1.get? h1.objs.size = none := fresh _ (Nat.le_refl _)
  have hhn : ∀ a, h1.get? a = none → h.get? a = none := fun a ha => by
    cases q : h.get? a with
    | none => rfl
    | some o => rw [(e.trans x1) a o q] at ha; cases ha
  generalize hCC : H2.objs.size = C at *
  generalize hDD : h1.objs.size = Dx at *
  have hIi : IsItr h1 I := it.own _ _ it.st
  let H' : List Addr := C :: Dx :: I :: H
  have hmore : ∀ b, b ∈ H' → b ∈ H ∨ h.get? b = none := fun b hb => by
    rcases List.mem_cons.mp hb with rfl | hb
    · exact .inr (hhn _ hCn)
    · rcases List.mem_cons.mp hb with rfl | hb
      · exact .inr (hhn _ hDn)
      · rcases List.mem_cons.mp hb with rfl | hb
        · exact .inr hI
        · exact .inl hb
  have hdm₁ : Dm H' h₁ := fun b hb z => by
    rcases List.mem_cons.mp hb with rfl | hb
    · exact Ns.some hns₁ z
    · rcases List.mem_cons.mp hb with rfl | hb
      · obtain ⟨n, q⟩ := hacc; rw [q] at z; cases z
      · rcases List.mem_cons.mp hb with rfl | hb
        · exact (it.own _ _ hst₁).some z
        · exact (hdm.ext ((e.trans x1).trans old)) b hb z
  have turn : ∀ h₂ m₂, ExtO [C, Dx, I] h₁ h₂ → Dm H' h₂ → h₂.Ns C m₂ → Turn h H C H' h₂ m₂ := fun h₂ m₂ x2 d2 n2 =>
    ⟨fun b o q => x2 b o (fun z => by
        have hb : h.get? b ≠ none := by rw [q]; exact fun z => nomatch z
        rcases List.mem_cons.mp z with rfl | z
        · exact hb (hhn _ hCn)
        · rcases List.mem_cons.mp z with rfl | z
          · exact hb (hhn _ hDn)
          · rw [List.mem_singleton.mp z] at hb; exact hb hI) (old b o ((e.trans x1) b o q)),
     d2, hmore, fun b hb => .tail _ (.tail _ (.tail _ hb)), n2, .head _, hhn _ hCn⟩
  refine (fun q => codeAny_compStart_list q (it.W.self 0 { s with heap := h₁, toks := _ } _ _ hst₁ q)) ?_
  · refine comp_loop (s := { s with heap := h₁, toks := _ }) (cenv := compEnvC scope cl C env) (H' := H') (p := p) (f := f) (B := fun d m h' => Bd H' m h' xs (pt d)) it.W hst₁ (.head _) (.tail _ (.head _)) (.tail _ (.tail _ (.head _))) hDC hDf hCf hacc hns₁ hdm₁
      (fun i v hP => ?_) it.own (fun d hd => hb C I H' d hd (.head _)) (fun d hd h₂ m₂ x2 d2 n2 b2 => htest C H' d h₂ m₂ hd (turn h₂ m₂ x2 d2 n2) b2) (fun d hd hpd h₂ m₂ x2 d2 n2 b2 => helt C H' d h₂ m₂ hd hpd (turn h₂ m₂ x2 d2 n2) b2) hsz (fun h' tk m' ys x2 n2 a2 r2 => ?_)
    · obtain ⟨d, hd, hr⟩ := it.rd i v hP
      refine ⟨d, hd, hr.more old fun b hb => ?_⟩
      rcases List.mem_cons.mp hb with rfl | hb
      · exact .inr hCn
      · rcases List.mem_cons.mp hb with rfl | hb
        · exact .inr hDn
        · exact .inl hb
    · refine hRR Dx C h' tk m' ys hDC hDn hCn (fun b o nI q1 => ?_) n2 a2 r2
      have bC : b ≠ C := fun z => by rw [z, hCn] at q1; exact nomatch q1
      have bD : b ≠ Dx := fun z => by rw [z, hDn] at q1; exact nomatch q1
      exact x2 b o (fun z => (List.mem_cons.mp z).elim bC fun z => (List.mem_cons.mp z).elim bD fun z => nI (List.mem_singleton.mp z)) (old b o q1)
theorem Ev.comp {elt target iter : Expr} {ifs : List Expr} {scope : Scope} {cl : List (Str × Addr)} {pos : Pos} {ds : List D} {p : D → Bool} {f : D → D} {xs : List Str} {pt : D → List D}
    (hclos : closureFor scope env = pure cl) (hcell : ∀ y ∈ scope.names, y.2 ≠ .cell) (hkind : scope.kind = .function) (hnames : ∀ y ∈ scope.names, y.2 = .local → scope.names.lookup y.1 = some .local)
    (src : Src w A H env h iter ds) (hdm : Dm H h)
    (hb : ∀ C I H' d, d ∈ ds → C ∈ H' → Binds w A H' (compEnvC scope cl C env) target I d (fun m h' => Bd H' m h' xs (pt d)))
    (htest : ∀ C H' d h₂ m₂, d ∈ ds → Turn h H C H' h₂ m₂ → Bd H' m₂ h₂ xs (pt d) → Gv w A h₂ (forIn ifs true fun c r => if r = true then do let ok ← PySem.isTrue c (compEnvC scope cl C env) (eval c (compEnvC scope cl C env)); pure (ForInStep.yield ok) else pure (ForInStep.yield r)) (fun ok _ => ok = p d))
    (helt : ∀ C H' d h₂ m₂, d ∈ ds → p d = true → Turn h H C H' h₂ m₂ → Bd H' m₂ h₂ xs (pt d) → Ev w A H' (compEnvC scope cl C env) h₂ elt (f d))
    (hsz : ds.length ≤ 100000) (hs : ∀ x, foldedSetIterable iter env x = pure x := by intro _; rfl) :
    Ev w A H env h (.ListComp elt [⟨target, iter, ifs, 0⟩] scope pos) (.list ((ds.filter p).map f)) := fun s Q E e k => by
  rw [eval_ListComp]
  refine wpAny_comprehension_free (use := none) rfl hs hclos hkind hnames (src s _ E e fun I fp P St h1 tk1 x1 it hIs => ?_)
  refine comp_core (RR := fun acc C => compPost (model prg w) A E none Q acc C) hclos hcell hkind hnames hdm e x1 it hIs hb htest helt hsz fun Dx C h' tk m' ys hDC hDn hCn x2 n2 a2 r2 => ?_
  refine ⟨m', n2, fun h'' hs'' => k (.ref Dx) h'' tk (fun b o q => ?_) ⟨Dx, ys.toList, rfl, ?_, ?_, ?_⟩⟩
  · have q1 : h1.get? b = some o := x1 b o q
    have bC : b ≠ C := fun z => by rw [z, hCn] at q1; exact nomatch q1
    have bI : b ≠ I := fun z => by rw [z, hIs] at q; exact nomatch q
    exact hs''.extBut b o bC (x2 b o bI q1)
  · intro z
    have := (hdm.ext (e.trans x1)) _ z
    exact this hDn
  · exact (a2.isList.extBut hs''.extBut hDC)
  · exact r2.mono fun b o n q => ⟨fun z => n (.tail _ (.tail _ (.tail _ z))), hs''.extBut b o (fun z => n (z ▸ .head _)) q⟩
end
section
variable {w : World} {A : Around} {h : Heap} {H W : List Addr} {env : Env} {mg mb : Str → Option Value}
noncomputable def Mv (B : List Addr) (h h' : Heap) : Prop := ∀ b o, h.get? b = some o → ∃ o', h'.get? b = some o' ∧ (b ∉ B → o' = o)
theorem Mv.off {B : List Addr} {h h' : Heap} (x : Mv B h h') : ExtO B h h' := fun b o n e => by obtain ⟨o', e', q⟩ := x b o e; rw [e', q n]
theorem Mv.there {B : List Addr} {h h' : Heap} (x : Mv B h h') {b : Addr} (e : h.get? b ≠ none) : h'.get? b ≠ none := fun z => by
  cases q : h.get? b with
  | none => exact e q
  | some o => obtain ⟨o', e', _⟩ := x b o q; rw [e'] at z; cases z
theorem Mv.gone {B : List Addr} {h h' : Heap} (x : Mv B h h') {b : Addr} (e : h'.get? b = none) : h.get? b = none := by
  cases q : h.get? b with
  | none => rfl
  | some o => obtain ⟨o', e', _⟩ := x b o q; rw [e'] at e; cases e
theorem Mv.dm {B H : List Addr} {h h' : Heap} (x : Mv B h h') (d : Dm H h) : Dm H h' := fun b hb => x.there (d b hb)
theorem Mv.refl (B : List Addr) (h : Heap) : Mv B h h := fun b o e => ⟨o, e, fun _ => rfl⟩
theorem Mv.trans {B : List Addr} {a b c : Heap} (x : Mv B a b) (y : Mv B b c) : Mv B a c := fun i o e => by
  obtain ⟨o', e', q⟩ := x i o e
  obtain ⟨o'', e'', q'⟩ := y i o' e'
  exact ⟨o'', e'', fun n => (q' n).trans (q n)⟩
theorem Ext.mv {B : List Addr} {h h' : Heap} (x : Ext h h') : Mv B h h' := fun b o e => ⟨o, x b o e, fun _ => rfl⟩
theorem Mv.sub {B B' : List Addr} {h h' : Heap} (x : Mv B h h') (q : ∀ b ∈ B, b ∈ B') : Mv B' h h' := fun b o e => let ⟨o', e', z⟩ := x b o e; ⟨o', e', fun n => z fun m => n (q b m)⟩
theorem Mv.ext {B : List Addr} {h0 h h' : Heap} (x : Mv B h h') (f : ∀ b ∈ B, h0.get? b = none) (e : Ext h0 h) : Ext h0 h' := fun b o q => x.off b o (fun z => by rw [f b z] at q; cases q) (e b o q)
theorem Mv.one {a : Addr} {h h' : Heap} (s : Heap.SameBut a h h') (p : h'.get? a ≠ none) : Mv [a] h h' := fun b o e => by
  by_cases q : b = a
  · subst q
    cases z : h'.get? b with
    | none => exact absurd z p
    | some o' => exact ⟨o', rfl, fun n => absurd (.head _) n⟩
  · exact ⟨o, (s.2 b q).trans e, fun _ => rfl⟩
noncomputable def Mx (w : World) (A : Around) (h : Heap) {α : Type} (t : Sem α) (R : α → Heap → Prop) : Prop :=
  ∀ (s : Shared) (Q : α → Shared → Prop) (E : Value → Shared → Prop), s.heap = h → (∀ v h' tk, R v h' → Q v { s with heap := h', toks := tk }) → wpAny (model prg w) A t Q E s
theorem Gv.mx {α : Type} {t : Sem α} {P : α → Heap → Prop} (g : Gv w A h t P) : Mx w A h t (fun v h' => Ext h h' ∧ P v h') := fun s Q E e k => by
  subst e; exact g s Q E (Ext.refl _) fun v h' tk x p => k v h' tk ⟨x, p⟩
theorem Mx.imp {α : Type} {t : Sem α} {P P' : α → Heap → Prop} (g : Mx w A h t P) (i : ∀ v h', P v h' → P' v h') : Mx w A h t P' := fun s Q E e k => g s Q E e fun v h' tk p => k v h' tk (i v h' p)
noncomputable abbrev frA (env : Env) : List Addr := env.locals :: env.cells.map (·.2)
structure Fm (h0 : Heap) (W : List Addr) (env : Env) (vars : List (Str × D)) (h : Heap) : Prop where
  fn : env.scope.kind = .function
  ext : Ext h0 h
  dm : Dm W h
  inW : ∀ b ∈ frA env, b ∈ W
  fresh : ∀ b ∈ frA env, h0.get? b = none
  apart : env.cells.Pairwise fun x y => x.2 ≠ y.2
  off : ∀ n c, (n, c) ∈ env.cells → env.locals ≠ c
  ns : ∃ m, h.Ns env.locals m ∧ ∀ x d, vars.lookup x = some d → env.kindOf x = some .local → ∃ v, m x = some v ∧ Rd W h d v
  cell : ∀ x c, env.cells.lookup x = some c → ∃ o, h.IsCell c o ∧ ∀ d, vars.lookup x = some d → env.kindOf x = some .cell → ∃ v, o = some v ∧ Rd W h d v
noncomputable def locOk (env : Env) (x : Str) : Bool := match env.kindOf x with
  | some .local => true
  | some .cell => (env.cells.lookup x).isSome
  | _ => false
theorem locOk.cases {x : Str} (k : locOk env x = true) : env.kindOf x = some .local ∨ (env.kindOf x = some .cell ∧ ∃ c, env.cells.lookup x = some c) := by
  unfold locOk at k
  split at k
  · rename_i q; exact .inl q
  · rename_i q; exact .inr ⟨q, Option.isSome_iff_exists.mp k⟩
  · cases k
variable {h0 : Heap} {vars : List (Str × D)}
theorem Fm.up {h' : Heap} (F : Fm h0 W env vars h) (e : Ext h h') : Fm h0 W env vars h' :=
  { F with ext := F.ext.trans e, dm := F.dm.ext e
           ns := let ⟨m, n, q⟩ := F.ns; ⟨m, n.keeps e, fun x d a b => let ⟨v, z, r⟩ := q x d a b; ⟨v, z, r.ext e⟩⟩
           cell := fun x c a => let ⟨o, n, q⟩ := F.cell x c a; ⟨o, n.keeps e, fun d a b => let ⟨v, z, r⟩ := q d a b; ⟨v, z, r.ext e⟩⟩ }
theorem Fm.move {B : List Addr} {h' : Heap} (F : Fm h0 W env vars h) (x : Mv B h h') (hB : ∀ b ∈ B, b ∈ W ∧ b ∉ frA env ∧ h0.get? b = none) : Fm h0 W env vars h' :=
  have xo : ExtO W h h' := fun b o n e => x.off b o (fun z => n (hB b z).1) e
  { F with ext := x.ext (fun b hb => (hB b hb).2.2) F.ext, dm := x.dm F.dm
           ns := let ⟨m, n, q⟩ := F.ns; ⟨m, n.at' fun o e => x.off _ o (fun z => (hB _ z).2.1 (.head _)) e, fun y d a b => let ⟨v, z, r⟩ := q y d a b; ⟨v, z, r.off xo⟩⟩
           cell := fun y c a => let ⟨o, ⟨oc, n, nd⟩, q⟩ := F.cell y c a; ⟨o, ⟨oc, x.off _ _ (fun z => (hB _ z).2.1 (.tail _ (List.mem_map_of_mem (f := (·.2)) (mem_of_lookup a)))) n, nd⟩, fun d a b => let ⟨v, z, r⟩ := q d a b; ⟨v, z, r.off xo⟩⟩ }
theorem Fm.var {x : Str} {pos : Pos} {d : D} (F : Fm h0 W env vars h) (hl : vars.lookup x = some d := by rfl) (kd : locOk env x = true := by rfl) (hd : (x == ("__debug__" : Str)) = false := by decide) : Ev w A W env h (.Name x pos) d := by
  rcases locOk.cases kd with k | ⟨k, c, hc⟩
  · obtain ⟨m, n, q⟩ := F.ns
    obtain ⟨v, hv, r⟩ := q x d hl k
    exact Ev.name (Nm.local n hv F.fn k hd) r
  · obtain ⟨o, n, q⟩ := F.cell x c hc
    obtain ⟨v, rfl, r⟩ := q d hl k
    exact Ev.name (Nm.cell hc n F.fn k hd) r
theorem frA_cell {x : Str} {c : Addr} (e : env.cells.lookup x = some c) : c ∈ frA env := .tail _ (List.mem_map_of_mem (f := (·.2)) (mem_of_lookup e))
theorem Fm.store {x : Str} {v : Value} {d : D} {s : Shared} {Q : Unit → Shared → Prop} {E : Value → Shared → Prop} (F : Fm h0 W env vars s.heap) (r : Rd W s.heap d v) (kd : locOk env x = true)
    (k : ∀ h' tk, Mv (frA env) s.heap h' → Fm h0 W env ((x, d) :: vars) h' → Q () { s with heap := h', toks := tk }) : wpAny (model prg w) A (storeName env x v) Q E s := by
  have step : ∀ (a : Addr) (h' : Heap), a ∈ frA env → Mv [a] s.heap h' → Ext h0 h' ∧ Dm W h' ∧ (∀ {d : D} {v : Value}, Rd W s.heap d v → Rd W h' d v) ∧ Mv (frA env) s.heap h' := fun a h' ha m =>
    ⟨m.ext (fun b hb => List.mem_singleton.mp hb ▸ F.fresh a ha) F.ext, m.dm F.dm, fun r => r.off fun b o n e => m.off b o (fun z => n (List.mem_singleton.mp z ▸ F.inW a ha)) e, m.sub fun b hb => List.mem_singleton.mp hb ▸ ha⟩
  have lk : ∀ y d', ((x, d) :: vars).lookup y = some d' → (y = x ∧ d' = d) ∨ (y ≠ x ∧ vars.lookup y = some d') := fun y d' e => by
    rw [List.lookup_cons] at e
    cases q : y == x with
    | true => rw [q] at e; cases e; exact .inl ⟨beq_iff_eq.mp q, rfl⟩
    | false => rw [q] at e; exact .inr ⟨beq_eq_false_iff_ne.mp q, e⟩
  rcases locOk.cases kd with kl | ⟨kc, c, hc⟩
  · obtain ⟨m, n, q⟩ := F.ns
    refine wpAny_storeName_local kl n (fun h' hn' hs => ?_) (plainFrame_of F.fn)
    obtain ⟨e1, e2, e3, e4⟩ := step env.locals h' (.head _) (Mv.one hs (Ns.some hn'))
    refine k h' _ e4 { F with ext := e1, dm := e2, ns := ⟨_, hn', fun y d' hy ky => ?_⟩, cell := fun y c hyc => ?_ }
    · rcases lk y d' hy with ⟨rfl, rfl⟩ | ⟨hne, hy⟩
      · exact ⟨v, by simp, e3 r⟩
      · obtain ⟨u, hu, ru⟩ := q y d' hy ky
        exact ⟨u, by simp [hne, hu], e3 ru⟩
    · obtain ⟨o, n, q⟩ := F.cell y c hyc
      refine ⟨o, n.sameBut hs (Ne.symm (F.off y c (mem_of_lookup hyc))), fun d' hy ky => ?_⟩
      rcases lk y d' hy with ⟨rfl, rfl⟩ | ⟨hne, hy⟩
      · rw [kl] at ky; cases ky
      · obtain ⟨u, hu, ru⟩ := q d' hy ky
        exact ⟨u, hu, e3 ru⟩
  · obtain ⟨o0, n0, q0⟩ := F.cell x c hc
    refine wpAny_storeName_cell F.fn kc hc n0 fun h' hn' hs => ?_
    have hsm : h'.get? c ≠ Option.none := fun z => by obtain ⟨o, a, _⟩ := hn'; rw [a] at z; cases z
    obtain ⟨e1, e2, e3, e4⟩ := step c h' (frA_cell hc) (Mv.one hs hsm)
    obtain ⟨m, n, q⟩ := F.ns
    refine k h' _ e4 { F with ext := e1, dm := e2, ns := ⟨m, n.sameBut hs (F.off x c (mem_of_lookup hc)), fun y d' hy ky => ?_⟩, cell := fun y c' hyc => ?_ }
    · rcases lk y d' hy with ⟨rfl, rfl⟩ | ⟨hne, hy⟩
      · rw [kc] at ky; cases ky
      · obtain ⟨u, hu, ru⟩ := q y d' hy ky
        exact ⟨u, hu, e3 ru⟩
    · by_cases hyx : y = x
      · subst hyx
        rw [hc] at hyc; cases hyc
        refine ⟨some v, hn', fun d' hy ky => ⟨v, rfl, ?_⟩⟩
        rcases lk y d' hy with ⟨_, rfl⟩ | ⟨hne, _⟩
        · exact e3 r
        · exact absurd rfl hne
      · obtain ⟨o, n, q⟩ := F.cell y c' hyc
        refine ⟨o, n.sameBut hs fun e => hyx (name_of_addr F.apart (mem_of_lookup hyc) (e ▸ mem_of_lookup hc)), fun d' hy ky => ?_⟩
        rcases lk y d' hy with ⟨rfl, rfl⟩ | ⟨hne, hy⟩
        · exact absurd rfl hyx
        · obtain ⟨u, hu, ru⟩ := q d' hy ky
          exact ⟨u, hu, e3 ru⟩
noncomputable def Xs (w : World) (A : Around) (env : Env) (PN : Heap → Prop) (PR : Value → Heap → Prop) (h : Heap) (ss : List Stmt) : Prop :=
  ∀ (s : Shared) (Q : Flow → Shared → Prop) (E : Value → Shared → Prop), s.heap = h → (∀ h' tk, PN h' → Q .next { s with heap := h', toks := tk }) → (∀ v h' tk, PR v h' → Q (.ret v) { s with heap := h', toks := tk }) →
    wpAny (model prg w) A (execs ss env) Q E s
variable {PN PN' : Heap → Prop} {PR : Value → Heap → Prop} {rest : List Stmt}
theorem Xs.hide (k : ∀ (PN' : Heap → Prop) (PR' : Value → Heap → Prop), (∀ h', PN h' → PN' h') → (∀ v h', PR v h' → PR' v h') → Xs w A env PN' PR' h rest) : Xs w A env PN PR h rest := k PN PR (fun _ x => x) fun _ _ x => x
theorem Xs.hideN (k : ∀ PN' : Heap → Prop, (∀ h', PN h' → PN' h') → Xs w A env PN' PR h rest) : Xs w A env PN PR h rest := k PN fun _ x => x
theorem Xs.nil (p : PN h) : Xs w A env PN PR h [] := fun s Q E e kn kr => by subst e; exact wpAny_execs_nil (kn _ s.toks p)
theorem Xs.ret {e : Expr} {pos : Pos} (m : Mx w A h (eval e env) PR) : Xs w A env PN PR h (.Return (some e) pos :: rest) := fun s Q E he kn kr =>
  wpAny_execs_cons (wpAny_Return_some (m s _ E he kr))
theorem Xs.retD {e : Expr} {pos : Pos} {d : D} (m : Ev w A W env h e d) (k : ∀ v h', Ext h h' → Rd W h' d v → PR v h') : Xs w A env PN PR h (.Return (some e) pos :: rest) := Xs.ret (m.mx.imp fun v h' p => k v h' p.1 p.2)
theorem Xs.asgM {x : Str} {px pos : Pos} {e : Expr} {d : D} {R : Heap → Prop} (m : Mx w A h (eval e env) (fun v h1 => Fm h0 W env vars h1 ∧ Rd W h1 d v ∧ R h1))
    (k : ∀ h1 h', R h1 → Mv (frA env) h1 h' → Fm h0 W env ((x, d) :: vars) h' → Xs w A env PN PR h' rest) (kd : locOk env x = true := by rfl)
    (hs : swapsWith e (some (.Name x px)) pos.line env = pure false := by rfl) : Xs w A env PN PR h (.Assign [.Name x px] e pos :: rest) := fun s Q E he kn kr =>
  wpAny_execs_cons (wpAny_Assign_Name (m s _ E he fun v h1 tk ⟨F, r, q⟩ => F.store (s := { s with heap := h1, toks := tk }) r kd fun h' tk' mv F' => k h1 h' q mv F' _ Q E rfl kn kr) hs)
theorem Xs.asg {x : Str} {px pos : Pos} {e : Expr} {d : D} (F : Fm h0 W env vars h) (m : Ev w A W env h e d)
    (k : ∀ h', Mv (frA env) h h' → Fm h0 W env ((x, d) :: vars) h' → Xs w A env PN PR h' rest) (kd : locOk env x = true := by rfl)
    (hs : swapsWith e (some (.Name x px)) pos.line env = pure false := by rfl) : Xs w A env PN PR h (.Assign [.Name x px] e pos :: rest) :=
  Xs.asgM (R := fun h1 => Ext h h1) (m.mx.imp fun v h1 p => ⟨F.up p.1, p.2, p.1⟩) (fun h1 h' e mv F' => k h' (e.mv.trans mv) F') kd hs
theorem Xs.exprM {e : Expr} {pos : Pos} {R : Heap → Prop} (m : Mx w A h (eval e env) (fun _ h1 => R h1)) (k : ∀ h1, R h1 → Xs w A env PN PR h1 rest) (hi : interactive env = false := by rfl) (hs : swapsWith e none pos.line env = pure false := by rfl) :
    Xs w A env PN PR h (.Expr e pos :: rest) := fun s Q E he kn kr =>
  wpAny_execs_cons (wpAny_Expr_any (m s _ E he fun v h1 tk q => k h1 q _ Q E rfl kn kr) hi hs)
theorem Xs.ite {test : Expr} {body orelse : List Stmt} {pos : Pos} {b : Bool} (t : Et w A env h test b) (hb : ∀ h1, Ext h h1 → Xs w A env PN' PR h1 (if b = true then body else orelse)) (k : ∀ h', PN' h' → Xs w A env PN PR h' rest) :
    Xs w A env PN PR h (.If test body orelse pos :: rest) := fun s Q E he kn kr => by
  subst he
  refine wpAny_execs_cons (wpAny_If (t s _ E (Ext.refl _) fun c h1 tk x q => ?_))
  subst q
  have hb := hb h1 x { s with heap := h1, toks := tk } (fun f s' => match f with | .next => wpAny (model prg w) A (execs rest env) Q E s' | f => Q f s') E rfl (fun h' tk' p => k h' p _ Q E rfl kn kr) kr
  cases c
  · rw [if_neg (by decide)] at hb ⊢; exact wpAny_mono hb (fun f s' z => by cases f <;> exact z) fun _ _ z => z
  · rw [if_pos rfl] at hb ⊢; exact wpAny_mono hb (fun f s' z => by cases f <;> exact z) fun _ _ z => z
theorem Xs.iff {test : Expr} {body : List Stmt} {pos : Pos} {b : Bool} (t : Et w A env h test b) (h1 : b = true → ∀ h1, Ext h h1 → Xs w A env (fun _ => False) PR h1 body) (h2 : b = false → ∀ h1, Ext h h1 → Xs w A env PN PR h1 rest) :
    Xs w A env PN PR h (.If test body [] pos :: rest) := by
  cases b with
  | true => exact Xs.ite (PN' := fun _ => False) t (fun g x => by rw [if_pos rfl]; exact h1 rfl g x) fun _ f => f.elim
  | false => exact Xs.ite (PN' := fun g => Ext h g) t (fun g x => by rw [if_neg (by decide)]; exact Xs.nil x) fun g x => h2 rfl g x
end
section
variable {w : World} {A : Around} {h h0 : Heap} {H W : List Addr} {env : Env} {mg mb : Str → Option Value}
theorem argsC {n : Nat} {P : List Value → Prop} (f : ∀ a vs, vs.length = n → P (a :: vs)) (vs : List Value) (e : vs.length = n + 1) : P vs := by
  cases vs with
  | nil => cases e
  | cons a vs => exact f a vs (Nat.succ.inj e)
theorem args0 {P : List Value → Prop} (f : P []) (vs : List Value) (e : vs.length = 0) : P vs := by
  cases vs with
  | nil => exact f
  | cons a vs => cases e
theorem args1 {P : List Value → Prop} (f : ∀ a, P [a]) : ∀ vs : List Value, vs.length = 1 → P vs := argsC fun a => args0 (f a)
theorem args2 {P : List Value → Prop} (f : ∀ a b, P [a, b]) : ∀ vs : List Value, vs.length = 2 → P vs := argsC fun a => args1 (f a)
theorem args3 {P : List Value → Prop} (f : ∀ a b c, P [a, b, c]) : ∀ vs : List Value, vs.length = 3 → P vs := argsC fun a => args2 (f a)
theorem args4 {P : List Value → Prop} (f : ∀ a b c d, P [a, b, c, d]) : ∀ vs : List Value, vs.length = 4 → P vs := argsC fun a => args3 (f a)
theorem args5 {P : List Value → Prop} (f : ∀ a b c d e, P [a, b, c, d, e]) : ∀ vs : List Value, vs.length = 5 → P vs := argsC fun a => args4 (f a)
theorem l2e {is : List Int} (h : is.length = 2) : ∃ x y, is = [x, y] := by
  cases is with
  | nil => cases h
  | cons x r => cases r with
    | nil => cases h
    | cons y r => cases r with
      | nil => exact ⟨x, y, rfl⟩
      | cons z r => cases h
theorem l3e {is : List Int} (h : is.length = 3) : ∃ x y z, is = [x, y, z] := by
  cases is with
  | nil => cases h
  | cons x r => obtain ⟨y, z, rfl⟩ := l2e (Nat.succ.inj h); exact ⟨x, y, z, rfl⟩
theorem l2i {is : List Int} (h : is.length = 2) : is = [is[0]!, is[1]!] := by obtain ⟨x, y, rfl⟩ := l2e h; rfl
theorem l3i {is : List Int} (h : is.length = 3) : is = [is[0]!, is[1]!, is[2]!] := by obtain ⟨x, y, z, rfl⟩ := l3e h; rfl
theorem l23 {is : List Int} (l : is.length = 2 ∨ is.length = 3) : (∃ x y, is = [x, y]) ∨ (∃ x y z, is = [x, y, z]) := l.imp l2e l3e
theorem beq_no {a b : Str} (z : (a == b) = false) : a ≠ b := ne_of_beq_false z
theorem beq_noI {a b : Int} (z : (a == b) = false) : a ≠ b := ne_of_beq_false z
theorem bind_ok {W : List Addr} {h : Heap} (K : Str → Option NameKind) : ∀ (ps : List Str) (vs : List Value) (ds : List D) (m cm : Str → Option Value) (vars : List (Str × D)),
    (∀ x d, vars.lookup x = some d → (K x = some .local → ∃ v, m x = some v ∧ Rd W h d v) ∧ (K x = some .cell → ∃ v, cm x = some v ∧ Rd W h d v)) → RdAll W h ds vs → ps.length = vs.length →
    (∀ x d, ((ps.zip ds).reverse ++ vars).lookup x = some d → (K x = some .local → ∃ v, bindL K (ps.zip vs) m x = some v ∧ Rd W h d v) ∧ (K x = some .cell → ∃ v, bindC K (ps.zip vs) cm x = some v ∧ Rd W h d v))
  | [], vs, ds, m, cm, vars, P, r, e => by
    simpa [bindL, bindC] using P
  | p :: ps, [], ds, m, cm, vars, P, r, e => by cases e
  | p :: ps, v :: vs, [], m, cm, vars, P, r, e => by cases r
  | p :: ps, v :: vs, d :: ds, m, cm, vars, P, r, e => by
    obtain ⟨v', vs', q, r1, r2⟩ := r
    cases q
    have := bind_ok K ps vs ds (if K p = some .local then fun y => if y = p then some v else m y else m) (if K p = some .local then cm else fun y => if y = p then some v else cm y) ((p, d) :: vars) (fun x d' e => by
      rw [List.lookup_cons] at e
      cases q : x == p with
      | true =>
        rw [q] at e; cases e
        have q := beq_iff_eq.mp q
        subst q
        refine ⟨fun k => ⟨v, by rw [if_pos k]; simp, r1⟩, fun k => ⟨v, by rw [if_neg (by rw [k]; decide)]; simp, r1⟩⟩
      | false =>
        rw [q] at e
        have q := beq_eq_false_iff_ne.mp q
        obtain ⟨a, b⟩ := P x d' e
        refine ⟨fun k => ?_, fun k => ?_⟩
        · obtain ⟨u, hu, ru⟩ := a k
          refine ⟨u, ?_, ru⟩
          split
          · simp [q, hu]
          · exact hu
        · obtain ⟨u, hu, ru⟩ := b k
          refine ⟨u, ?_, ru⟩
          split
          · exact hu
          · simp [q, hu]) r2 (by simpa using e)
    simpa [bindL, bindC] using this
noncomputable def kindsOk (names : List (Str × NameKind)) (ps : List Str) (n : Nat) : Bool :=
  ps.all fun x => names.lookup x == some .local || (names.lookup x == some .cell && ((cellsFrom n names []).lookup x).isSome)
noncomputable def Cx (w : World) (A : Around) (h : Heap) (f : Addr) (vs : List Value) (PR : Value → Heap → Prop) : Prop :=
  ∀ (s : Shared) (R : Result → Shared → Prop), s.heap = h → (∀ v h' tk, PR v h' → R (.ok (.ret v)) { s with heap := h', toks := tk }) → codeAny (model prg w) A (.call (.ref f) ⟨vs, []⟩) R s
theorem Cx.mx {f : Addr} {vs : List Value} {PR : Value → Heap → Prop} (c : Cx w A h f vs PR) : Mx w A h (PySem.call (.ref f) vs) PR := fun s Q E he k => wpAny_call (c s _ he fun v h' tk p => k v h' tk p)
theorem Cx.enter {f : Addr} {st : Stmt} {nm qual : Str} {dV kV doc pm cdv ct oc : Value} {an od : Option Addr} {osl : Array (Option Value)} {k : Nat} {vs : List Value} {ps : List Str} {ds : List D} {PR : Value → Heap → Prop}
    (g : Gd w mg mb h0) (e : Ext h0 h) (hm : Rm A (k + 1)) (hdm : Dm H h) (rd : RdAll H h ds vs)
    (ho : (KF w.params).lookup f = some ⟨oc, od, fnD st nm qual [] dV kV doc pm an cdv ct mainGlobals builtinsNs, osl⟩) (hcd : codeIn (KF w.params) cdv qual = true)
    (hb : ∀ vs : List Value, vs.length = ps.length → bindArgs { name := nm, qualname := qual, params := dArgs st, body := .stmts (dBody st), scope := dScope st, globals := mainGlobals, closure := [], defaults := dV, kwdefaults := kV, doc := doc, pyModule := pm, annotations := an, code := cdv, closureTuple := ct, builtins := builtinsNs } ⟨vs, []⟩ = pure (ps.zip vs))
    (hl : ps.length = ds.length)
    (hkind : ∀ n, kindsOk (dScope st).names ps n = true) (hnd : ((cellsFrom 0 (dScope st).names []).map (·.1)).Nodup)
    (hk : (dScope st).kind = .function) (hco : (dScope st).isCoroutine = false) (hgen : (dScope st).isGenerator = false)
    (body : ∀ L A' h1, Rm A' k → Fm h0 (frA (envOfC qual (dScope st) L f cdv) ++ H) (envOfC qual (dScope st) L f cdv) (ps.zip ds).reverse h1 → Ext h h1 → (∀ b ∈ frA (envOfC qual (dScope st) L f cdv), h.get? b = none) →
      Xs w A' (envOfC qual (dScope st) L f cdv) (fun h' => PR .none h') PR h1 (dBody st)) :
    Cx w A h f vs PR := fun s R he kr => by
  subst he
  have X := g.X.keeps e
  refine (codeAny_call_cells (binds := ps.zip vs) hm.dep (X _ _ ho) rfl (g.T.nolimit.keeps e) (codeRec_of X hcd) rfl (hb vs (by rw [rd.length, hl])) rfl (fun y hy => ?_) (fun s₁ ic => ?_) hco hgen hk)
  · have := List.all_eq_true.mp (hkind (s.heap.objs.size + 1)) y.1 ((List.of_mem_zip hy).1)
    rcases Bool.or_eq_true_iff.mp this with q | q
    · exact .inl (beq_iff_eq.mp q)
    · obtain ⟨q1, q2⟩ := Bool.and_eq_true_iff.mp q
      exact .inr ⟨beq_iff_eq.mp q1, q2⟩
  · obtain ⟨h1, tk, rfl, ke⟩ := ic.done
    have hLn : ∀ b, s.heap.objs.size ≤ b → s.heap.get? b = none := fun b hb => by
      cases q : s.heap.get? b with
      | none => rfl
      | some o => exact absurd (Heap.lt_size q) (Nat.not_lt.mpr hb)
    have hfr : ∀ b ∈ frA (envOfC qual (dScope st) s.heap.objs.size f cdv), s.heap.get? b = none := fun b hb => by
      rcases List.mem_cons.mp hb with rfl | hb
      · exact hLn _ (Nat.le_refl _)
      · obtain ⟨c, hc, rfl⟩ := List.mem_map.mp hb
        exact hLn _ (Nat.le_of_lt (ic.above c.1 c.2 hc))
    have h0n : ∀ b, s.heap.get? b = none → h0.get? b = none := fun b hb => by
      cases q : h0.get? b with
      | none => rfl
      | some o => rw [e b o q] at hb; cases hb
    have cellAt : ∀ n c, (n, c) ∈ cellsFrom (s.heap.objs.size + 1) (dScope st).names [] → h1.IsCell c _ := fun n c hc =>
      ic.cell n c (lookup_of_mem_nodup (cellsFrom_names (dScope st).names 0 (s.heap.objs.size + 1) [] [] rfl ▸ hnd) hc)
    have hrd : RdAll (frA (envOfC qual (dScope st) s.heap.objs.size f cdv) ++ H) h1 ds vs := rd.more ke fun b hb => (List.mem_append.mp hb).elim (fun z => .inr (hfr b z)) .inl
    have bo := bind_ok (W := frA (envOfC qual (dScope st) s.heap.objs.size f cdv) ++ H) (h := h1) (envOfC qual (dScope st) s.heap.objs.size f cdv).kindOf ps vs ds (fun _ => none) (fun _ => none) [] (fun x d q => nomatch q) hrd (by rw [rd.length, hl])
    rw [List.append_nil] at bo
    have F : Fm h0 (frA (envOfC qual (dScope st) s.heap.objs.size f cdv) ++ H) (envOfC qual (dScope st) s.heap.objs.size f cdv) (ps.zip ds).reverse h1 :=
      { fn := hk, ext := e.trans ke, dm := fun b hb => by
          rcases List.mem_append.mp hb with hb | hb
          · rcases List.mem_cons.mp hb with rfl | hb
            · exact Ns.some ic.toInCall.ns
            · obtain ⟨c, hc, rfl⟩ := List.mem_map.mp hb
              obtain ⟨o, q, _⟩ := cellAt c.1 c.2 hc
              rw [q]; exact fun z => nomatch z
          · exact (hdm.ext ke) b hb
        inW := fun b hb => List.mem_append_left _ hb, fresh := fun b hb => h0n b (hfr b hb), apart := ic.apart, off := fun n c hc => Nat.ne_of_lt (ic.above n c hc)
        ns := ⟨_, ic.toInCall.ns, fun x d q kl => (bo x d q).1 kl⟩
        cell := fun x c q => ⟨_, ic.cell x c q, fun d z kc => (bo x d z).2 kc⟩ }
    exact body s.heap.objs.size (A.deeper (envOfC qual (dScope st) s.heap.objs.size f cdv)) h1 (hm.deeper) F ke hfr { s with heap := h1, toks := tk } (fun fl s' => R (.ok (.ret (match fl with | .ret v => v | _ => .none))) s') _ rfl (fun h' tk' p => kr _ h' tk' p) (fun v h' tk' p => kr _ h' tk' p)
theorem Mx.enter {f : Addr} {st : Stmt} {nm qual : Str} {dV kV doc pm cdv ct oc : Value} {an od : Option Addr} {osl : Array (Option Value)} {k : Nat} {vs : List Value} {ps : List Str} {ds : List D} {PR : Value → Heap → Prop}
    (g : Gd w mg mb h0) (e : Ext h0 h) (hm : Rm A (k + 1)) (hdm : Dm H h) (rd : RdAll H h ds vs)
    (ho : (KF w.params).lookup f = some ⟨oc, od, fnD st nm qual [] dV kV doc pm an cdv ct mainGlobals builtinsNs, osl⟩) (hcd : codeIn (KF w.params) cdv qual = true)
    (hb : ∀ vs : List Value, vs.length = ps.length → bindArgs { name := nm, qualname := qual, params := dArgs st, body := .stmts (dBody st), scope := dScope st, globals := mainGlobals, closure := [], defaults := dV, kwdefaults := kV, doc := doc, pyModule := pm, annotations := an, code := cdv, closureTuple := ct, builtins := builtinsNs } ⟨vs, []⟩ = pure (ps.zip vs))
    (hl : ps.length = ds.length)
    (hkind : ∀ n, kindsOk (dScope st).names ps n = true) (hnd : ((cellsFrom 0 (dScope st).names []).map (·.1)).Nodup)
    (hk : (dScope st).kind = .function) (hco : (dScope st).isCoroutine = false) (hgen : (dScope st).isGenerator = false)
    (body : ∀ L A' h1, Rm A' k → Fm h0 (frA (envOfC qual (dScope st) L f cdv) ++ H) (envOfC qual (dScope st) L f cdv) (ps.zip ds).reverse h1 → Ext h h1 → (∀ b ∈ frA (envOfC qual (dScope st) L f cdv), h.get? b = none) →
      Xs w A' (envOfC qual (dScope st) L f cdv) (fun h' => PR .none h') PR h1 (dBody st)) :
    Mx w A h (PySem.call (.ref f) vs) PR := (Cx.enter g e hm hdm rd ho hcd hb hl hkind hnd hk hco hgen body).mx
theorem Fn.enter {f : Addr} {st : Stmt} {nm qual : Str} {dV kV doc pm cdv ct oc : Value} {an od : Option Addr} {osl : Array (Option Value)} {k : Nat} {ps : List Str} {ds : List D} {d : D}
    (g : Gd w mg mb h) (hdm : Dm H h)
    (ho : (KF w.params).lookup f = some ⟨oc, od, fnD st nm qual [] dV kV doc pm an cdv ct mainGlobals builtinsNs, osl⟩) (hcd : codeIn (KF w.params) cdv qual = true)
    (hb : ∀ vs : List Value, vs.length = ps.length → bindArgs { name := nm, qualname := qual, params := dArgs st, body := .stmts (dBody st), scope := dScope st, globals := mainGlobals, closure := [], defaults := dV, kwdefaults := kV, doc := doc, pyModule := pm, annotations := an, code := cdv, closureTuple := ct, builtins := builtinsNs } ⟨vs, []⟩ = pure (ps.zip vs))
    (hl : ps.length = ds.length)
    (hkind : ∀ n, kindsOk (dScope st).names ps n = true) (hnd : ((cellsFrom 0 (dScope st).names []).map (·.1)).Nodup)
    (hk : (dScope st).kind = .function) (hco : (dScope st).isCoroutine = false) (hgen : (dScope st).isGenerator = false)
    (body : ∀ L A' W h0 h1, Rm A' k → Ext h h0 → (∀ b, b ∈ H → b ∈ W) → (∀ b, b ∈ W → b ∈ H ∨ h.get? b = none) → Fm h0 W (envOfC qual (dScope st) L f cdv) (ps.zip ds).reverse h1 →
      Xs w A' (envOfC qual (dScope st) L f cdv) (fun h' => Ext h0 h' ∧ Rd W h' d .none) (fun v h' => Ext h0 h' ∧ Rd W h' d v) h1 (dBody st)) :
    Fn w (k + 1) H h f ds d := fun A h₁ vs hm e rd s Q E e1 kr => by
  refine Mx.enter (h0 := s.heap) (h := s.heap) (g.ext (e.trans e1)) (Ext.refl _) hm (hdm.ext (e.trans e1)) (rd.ext e1) ho hcd hb hl hkind hnd hk hco hgen (PR := fun v h' => Ext s.heap h' ∧ Rd H h' d v) (fun L A' h1 r F e' fr => ?_) s Q E rfl fun v h' tk p => kr v h' tk p.1 p.2
  have := body L A' _ s.heap h1 r (e.trans e1) (fun b hb => List.mem_append_right _ hb) (fun b hb => (List.mem_append.mp hb).elim (fun z => .inr (Mv.gone ((e.trans e1).mv (B := [])) (fr b z))) .inl) F
  intro s' Q' E' he kn kr'
  exact this s' Q' E' he (fun h' tk p => kn h' tk ⟨p.1, p.2.less fun b hb => List.mem_append_right _ hb⟩) (fun v h' tk p => kr' v h' tk ⟨p.1, p.2.less fun b hb => List.mem_append_right _ hb⟩)
end
noncomputable abbrev Key := Str × List Int × Int × Int
noncomputable def Key.d (k : Key) : D := .tup [.str k.1, .tup (k.2.1.map .int), .int k.2.2.1, .int k.2.2.2]
noncomputable def Key.py (k : Key) : PyData := .tuple [.str k.1, .tuple (k.2.1.map .int), .int k.2.2.1, .int k.2.2.2]
noncomputable def Key.at (h : Heap) (k : Key) (a : Addr) : Prop := PyData.strOk k.1 = true ∧ ∃ (t u x y : Nat) (b : Addr) (is : List Value), IsTup h a #[.str k.1 t, .ref b, .int k.2.2.1 x, .int k.2.2.2 y] ∧ IsTup h b is.toArray ∧ IntsAre is k.2.1
theorem Key.at_of {H : List Addr} {h : Heap} {k : Key} {v : Value} (hk : PyData.strOk k.1 = true) (r : Rd H h k.d v) : ∃ a, v = .ref a ∧ k.at h a := by
  obtain ⟨a, vs, rfl, _, ht, r⟩ := r
  obtain ⟨v1, _, rfl, ⟨t, rfl⟩, v2, _, rfl, ⟨b, is, rfl, _, hb, ri⟩, v3, _, rfl, ⟨x, rfl⟩, v4, _, rfl, ⟨y, rfl⟩, rfl⟩ := r
  exact ⟨a, rfl, hk, t, 0, x, y, b, is, ht, hb, ri.ints⟩
theorem readsAll_ints {h : Heap} {is : List Value} {ns : List Int} (i : IntsAre is ns) : ReadsAll h is (ns.map .int) [] := by
  induction i with
  | nil => exact .nil
  | cons k t _ ih => exact .cons (as := []) (.int _ _) ih
theorem Key.reads {h : Heap} {k : Key} {a : Addr} (x : k.at h a) : Reads h (.ref a) k.py [] := by
  obtain ⟨_, t, u, x, y, b, is, ⟨o, e1, e2, n, e3⟩, ⟨o', f1, f2, n', f3⟩, ri⟩ := x
  exact .tuple e1 e2 e3 (.cons (as := []) (bs := []) (.str _ _) (.cons (as := []) (bs := []) (.tuple f1 f2 f3 (readsAll_ints ri)) (.cons (as := []) (bs := []) (.int _ _) (.cons (as := []) (bs := []) (.int _ _) .nil))))
theorem canLay_ints (ns : List Int) : PyData.canLayAll0 (ns.map .int) = true := by
  induction ns with
  | nil => rfl
  | cons n ns ih => simp [PyData.canLayAll0, PyData.canLay0, ih]
theorem Key.can {k : Key} (hk : PyData.strOk k.1 = true) : k.py.canLay0 = true := by simp [Key.py, PyData.canLay0, PyData.canLayAll0, canLay_ints, hk]
theorem depth_ints (ns : List Int) : PyData.depthAll (ns.map .int) ≤ 1 := by
  induction ns with
  | nil => simp [PyData.depthAll]
  | cons n ns ih => simp only [List.map_cons, PyData.depthAll, PyData.depth]; omega
theorem Key.depth (k : Key) : k.py.depth ≤ 3 := by
  have d := depth_ints k.2.1
  simp only [Key.py, PyData.depth, PyData.depthAll]
  generalize PyData.depthAll (k.2.1.map .int) = n at d ⊢
  cases n with
  | zero => decide
  | succ n => cases n with
    | zero => decide
    | succ n => exact absurd d (by omega)
theorem eqv_ints (a b : List Int) : PyData.eqvAll (a.map .int) (b.map .int) = decide (a = b) := by
  induction a generalizing b with
  | nil => cases b <;> simp [PyData.eqvAll]
  | cons x a ih => cases b with
    | nil => simp [PyData.eqvAll]
    | cons y b => simp only [List.map_cons, PyData.eqvAll, PyData.eqv, ih]; rw [Bool.eq_iff_iff]; simp
theorem Key.eqv (x y : Key) : PyData.eqv x.py y.py = decide (x = y) := by
  obtain ⟨a, b, c, d⟩ := x
  obtain ⟨a', b', c', d'⟩ := y
  simp only [Key.py, PyData.eqv, PyData.eqvAll, eqv_ints]
  rw [Bool.eq_iff_iff]; simp
theorem Key.py_inj {x y : Key} (e : x.py = y.py) : x = y := by
  have h1 := Key.eqv x y
  have h2 := Key.eqv y y
  rw [e, h2] at h1
  simpa using h1.symm
section
variable {prog : Program} {w : World} {A : Around} {E : Value → Shared → Prop} {s : Shared}
noncomputable def HashAt (prog : Program) (w : World) (h : Heap) (r : Nat) (v : Value) (i : Int) (n : Nat) : Prop := ∀ (A : Around) (E : Value → Shared → Prop) (s : Shared) (Q : Int → Shared → Prop), A.units + r < cLine → s.heap = h → Q i { s with toks := s.toks + n } → wpAny (model prog w) A (PySem.pyHash v) Q E s
inductive HashAll (prog : Program) (w : World) (h : Heap) (r : Nat) : List Value → List Int → Nat → Prop
  | nil : HashAll prog w h r [] [] 0
  | cons {v : Value} {i : Int} {n : Nat} {vs : List Value} {is : List Int} {m : Nat} : HashAt prog w h r v i n → HashAll prog w h r vs is m → HashAll prog w h r (v :: vs) (i :: is) (n + m)
theorem hash_tuple {a : Addr} {vs : List Value} {is : List Int} {m : Nat} {Q : Int → Shared → Prop} {r : Nat} (hu : A.units + 1 + r < cLine) (ht : IsTup s.heap a vs.toArray) (hs : HashAll prog w s.heap r vs is m)
    (h : Q (reduceHash (Builtin.Tuple.tupleHashOf is)) { s with toks := s.toks + (m + 1) }) : wpAny (model prog w) A (PySem.pyHash (.ref a)) Q E s := by
  have hT := ht.typeIs
  obtain ⟨o, ho, _, n, hd⟩ := ht
  unfold PySem.pyHash
  first | unfold pyHashByItsType | skip
  first | refine wpAny_bind (wpAny_cRoomFor_or (.inr (by omega)) ?_) | skip
  refine wpAny_bind (wpAny_specialOf hT F.slot_tuple_hash.lookup ?_)
  show wpAny _ _ (if (some (Value.builtin "tuple.__hash__") == some Value.none) = true then _ else _) Q E s
  rw [if_neg (by rw [beq_builtin_none]; exact Bool.false_ne_true)]
  refine wpAny_bind (wpAny_specialOf hT F.slot_tuple_hash.lookup ?_)
  show wpAny _ _ (callSpecialIfBoundUnlessNone? (.ref a) "__hash__" _ >>= _) Q E s
  refine wpAny_bind (wpAny_callSpecialIfBoundUnlessNone?_slot hT F.slot_tuple_hash (wpAny_call_entry F.slot_tuple_hash hT F.entry_tuple_hash ?_ (F.args_tuple_hash_1 _)))
  show wpAny _ _ (Builtin.Tuple.tupleItemsOf (.ref a) >>= _) _ _ s
  refine wpAny_bind (wpAny_tupleItemsOf ho hd ?_)
  refine wpAny_bind ?_
  rw [← Array.forIn_toList]
  refine wpAny_forIn_list _
    (fun rest (b : Array Int) s' => ∃ done left k l, is = done ++ left ∧ HashAll prog w s.heap r rest left l ∧ k + l = m ∧ b.toList = done ∧ s' = { s with toks := s.toks + k })
    _ ?_ ?_ _ _ ⟨[], is, 0, m, rfl, hs, by omega, rfl, rfl⟩
  · rintro x rest b s' ⟨done, left, k, l, rfl, hl, hk, hb, rfl⟩
    cases hl with
    | @cons _ i n _ is' l' h1 hl' =>
      refine wpAny_bind (h1 _ _ _ _ (by show A.units + 1 + r < _; omega) rfl ?_)
      first
        | exact wpAny_pure ⟨done ++ [i], is', k + n, l', by simp, hl', by omega, by simp [hb], by simp [Nat.add_assoc]⟩
        | exact wpAny_bind (wpAny_pure (wpAny_pure ⟨done ++ [i], is', k + n, l', by simp, hl', by omega, by simp [hb], by simp [Nat.add_assoc]⟩))
  · rintro b s' ⟨done, left, k, l, rfl, hl, hk, hb, rfl⟩
    cases hl
    rw [List.append_nil] at h
    have hk : k = m := by omega
    subst hk
    show wpAny _ _ (retInt (Builtin.Tuple.tupleHashOf b.toList)) _ _ _
    rw [hb]
    refine wpAny_ret_mkInt ?_
    show wpAny _ _ (if (decide (-(2 : Int) ^ 63 ≤ Builtin.Tuple.tupleHashOf done) && decide (Builtin.Tuple.tupleHashOf done < 2 ^ 63)) = true then _ else _) Q E _
    unfold reduceHash at h
    by_cases hr : (decide (-(2 : Int) ^ 63 ≤ Builtin.Tuple.tupleHashOf done) && decide (Builtin.Tuple.tupleHashOf done < 2 ^ 63)) = true
    · rw [if_pos hr]
      rw [if_pos hr] at h
      exact wpAny_pure (by simpa [Nat.add_assoc] using h)
    · rw [if_neg hr]
      rw [if_neg hr] at h
      exact wpAny_bind (wpAny_rule (wpAny_pure (by simpa [Nat.add_assoc] using h)))
theorem hashAt_int {h : Heap} {k : Int} {t r : Nat} : HashAt prog w h r (.int k t) (hashInt k) 1 := fun A E s Q _ _ q => (intKind prog w).pyHash (k := k) (by show Value.isInt k (.int k t) = true; simp [Value.isInt]) q
theorem hashAt_str {h : Heap} {k : Str} {t r : Nat} : HashAt prog w h r (.str k t) (hashStr w k) 1 := fun A E s Q _ _ q => wpAny_pyHash_str q
theorem hash_ints {h : Heap} {r : Nat} {is : List Value} {ns : List Int} (i : IntsAre is ns) : HashAll prog w h r is (ns.map hashInt) ns.length := by
  induction i with
  | nil => exact .nil
  | @cons k t vs ks _ ih =>
    have := HashAll.cons (hashAt_int (prog := prog) (w := w) (h := h) (r := r) (k := k) (t := t)) ih
    rw [Nat.add_comm] at this
    exact this
theorem intsAre_str {is : List Value} {ns : List Int} (i : IntsAre is ns) : ∀ v ∈ is, carriedByValue v = true := by
  induction i with
  | nil => intro v hv; cases hv
  | cons k t _ ih =>
    intro v hv
    rcases List.mem_cons.mp hv with rfl | hv
    · rfl
    · exact ih v hv
noncomputable def Key.hash (w : World) (k : Key) : Int := reduceHash (Builtin.Tuple.tupleHashOf [hashStr w k.1, reduceHash (Builtin.Tuple.tupleHashOf (k.2.1.map hashInt)), hashInt k.2.2.1, hashInt k.2.2.2])
theorem Key.pyHash {k : Key} {a : Addr} {Q : Int → Shared → Prop} (hu : A.units + 8 < cLine) (x : k.at s.heap a) (h : Q (k.hash w) { s with toks := s.toks + (k.2.1.length + 5) }) : wpAny (model prog w) A (PySem.pyHash (.ref a)) Q E s := by
  obtain ⟨_, t, u, x, y, b, is, ht, hb, ri⟩ := x
  have inner : HashAt prog w s.heap 2 (.ref b) (reduceHash (Builtin.Tuple.tupleHashOf (k.2.1.map hashInt))) (k.2.1.length + 1) := fun A' E' s' Q' hu' e q =>
    hash_tuple (r := 1) (by omega) (e ▸ hb) (hash_ints ri) q
  refine hash_tuple (vs := [.str k.1 t, .ref b, .int k.2.2.1 x, .int k.2.2.2 y]) (m := 1 + ((k.2.1.length + 1) + (1 + (1 + 0)))) (by omega) ht (.cons hashAt_str (.cons inner (.cons hashAt_int (.cons hashAt_int .nil)))) ?_
  have e : 1 + ((k.2.1.length + 1) + (1 + (1 + 0))) + 1 = k.2.1.length + 5 := by omega
  rw [e]; exact h
theorem Key.inj {h : Heap} {a : Addr} {x y : Key} (p : x.at h a) (q : y.at h a) : x = y := Key.py_inj (Reads.unique _ _ _ _ _ (Key.can p.1) (Key.reads p) (Key.reads q))
theorem Key.eqBool {x y : Key} {a b : Addr} {Q : Bool → Shared → Prop} (hu : A.units + 8 < cLine) (p : x.at s.heap a) (q : y.at s.heap b) (h : Q (decide (x = y)) s) : wpAny (model prog w) A (PySem.eqBool (.ref a) (.ref b)) Q E s :=
  eqBoolOverData prog w A E s _ _ _ _ _ _ Q (Key.reads p) (Key.reads q) (Key.can p.1) (Key.can q.1) (by have := x.depth; omega) (by rw [Key.eqv]; exact h)
theorem Key.keeps {h h' : Heap} {k : Key} {a d : Addr} {o : Obj} {es : Array DictEntry} {ep : Nat} (x : k.at h a) (ho : h.get? d = some o) (hd : o.data = .dict es ep) (hs : Heap.SameBut d h h') : k.at h' a := by
  obtain ⟨k0, t, u, x, y, b, is, ⟨o1, e1, e2, n1, e3⟩, ⟨o2, f1, f2, n2, f3⟩, ri⟩ := x
  have ne : ∀ {c : Addr} {o' : Obj} {vs : Array Value} {n : Nat}, h.get? c = some o' → o'.data = .seq vs n → c ≠ d := fun {c o' vs n} p q z => by
    subst z; rw [ho] at p; cases p; rw [hd] at q; cases q
  exact ⟨k0, t, u, x, y, b, is, ⟨o1, (hs.2 _ (ne e1 e3)).trans e1, e2, n1, e3⟩, ⟨o2, (hs.2 _ (ne f1 f3)).trans f1, f2, n2, f3⟩, ri⟩
theorem quiet_tuple {a : Addr} {vs : List Value} {m : Nat} {Q : Bool → Shared → Prop} (ht : IsTup s.heap a vs.toArray) (hq : ∀ v ∈ vs, ∀ (Q : Bool → Shared → Prop), Q true s → wpAny (model prog w) A (eqIsQuiet m v) Q E s) (h : Q true s) : wpAny (model prog w) A (eqIsQuiet (m + 1) (.ref a)) Q E s := by
  have hT := ht.typeIs
  obtain ⟨o, ho, _, n, hd⟩ := ht
  unfold eqIsQuiet
  refine wpAny_bind (wpAny_specialOf hT F.slot_tuple_eq.lookup ?_)
  show wpAny _ _ (isInstance (.ref a) (.type "tuple") >>= _) _ _ s
  refine wpAny_bind (wpAny_isInstance hT isSubtype_tuple_tuple ?_)
  simp -iota only [Bool.not_true, Bool.false_eq_true, if_false]
  refine wpAny_bind (wpAny_seqItems ho hd ?_)
  refine wpAny_bind ?_
  show wpAny _ _ (forIn vs.toArray _ _) _ _ s
  rw [← Array.forIn_toList]
  refine wpAny_forIn_list _ (fun rest r s' => r.1 = none ∧ s' = s ∧ ∀ v ∈ rest, v ∈ vs) _ ?_ ?_ _ _ ⟨rfl, rfl, fun v hv => by simpa using hv⟩
  · rintro v rest r s' ⟨hr, rfl, hall⟩
    refine wpAny_bind (hq v (hall v (.head _)) _ ?_)
    simp -iota only [Bool.not_true, Bool.false_eq_true, if_false]
    exact wpAny_pure ⟨rfl, rfl, fun u hu' => hall u (List.mem_cons_of_mem _ hu')⟩
  · rintro ⟨r1, r2⟩ s' ⟨hr, rfl, _⟩
    simp only at hr
    subst hr
    exact wpAny_pure h
theorem quiet_val {v : Value} {m : Nat} {Q : Bool → Shared → Prop} (hv : carriedByValue v = true) (h : Q true s) : wpAny (model prog w) A (eqIsQuiet m v) Q E s := by
  rw [eqIsQuiet_byValue m hv]; exact wpAny_pure h
theorem Key.quiet {k : Key} {a : Addr} {Q : Bool → Shared → Prop} (x : k.at s.heap a) (h : Q true s) : wpAny (model prog w) A (eqIsQuiet 8 (.ref a)) Q E s := by
  obtain ⟨k0, t, u, x, y, b, is, ht, hb, ri⟩ := x
  refine quiet_tuple ht (fun v hv Q' q => ?_) h
  simp only [List.mem_cons, List.not_mem_nil, or_false] at hv
  rcases hv with rfl | rfl | rfl | rfl
  · exact quiet_val rfl q
  · exact quiet_tuple hb (fun v hv Q' q => quiet_val (intsAre_str ri v hv) q) q
  · exact quiet_val rfl q
  · exact quiet_val rfl q
end
noncomputable def keyKind (prog : Program) (w : World) : HeapKind prog w Key where
  is := fun h k a => k.at h a
  hash := Key.hash w
  draws := fun k => k.2.1.length + 5
  room := fun A => A.units + 8 < cLine
  inj := fun p q => Key.inj p q
  keeps := fun x ho hd hs => Key.keeps x ho hd hs
  pyHash := fun hu hk h => Key.pyHash hu hk h
  eqBool := fun hu hx hy h => Key.eqBool hu hx hy h
  quiet := fun hk h => Key.quiet hk h
section
variable {w : World} {A : Around} {h h0 : Heap} {H W : List Addr} {env : Env} {mg mb : Str → Option Value}
noncomputable def To (H : List Addr) (h : Heap) (H' : List Addr) (h' : Heap) : Prop := ∀ b o, b ∉ H → h.get? b = some o → b ∉ H' ∧ h'.get? b = some o
theorem To.ext {h' : Heap} (x : Ext h h') : To H h H h' := fun b o n e => ⟨n, x b o e⟩
theorem To.mv {B : List Addr} {h' : Heap} (x : Mv B h h') (q : ∀ b ∈ B, b ∈ H) : To H h H h' := fun b o n e => ⟨n, x.off b o (fun z => n (q b z)) e⟩
theorem To.more {H' : List Addr} {h' : Heap} (x : Ext h h') (q : ∀ b, b ∈ H' → b ∈ H ∨ h.get? b = none) : To H h H' h' := fun b o n e => ⟨fun m => (q b m).elim n fun z => (nomatch (z ▸ e : Option.none = some o)), x b o e⟩
theorem To.less {H' : List Addr} (q : ∀ b, b ∈ H' → b ∈ H) : To H h H' h := fun b o n e => ⟨fun m => n (q b m), e⟩
theorem Rd.to {H' : List Addr} {h' : Heap} {d : D} {v : Value} (r : Rd H h d v) (x : To H h H' h') : Rd H' h' d v := r.mono x
theorem RdAll.to {H' : List Addr} {h' : Heap} {d : List D} {v : List Value} (r : RdAll H h d v) (x : To H h H' h') : RdAll H' h' d v := r.mono x
noncomputable def ObH (H : List Addr) (h : Heap) (x C : Addr) (af : Str → Option Value) : Prop := ∃ ox es n, x ∉ H ∧ (∀ d, ox.dict = some d → d ∉ H) ∧ InstAt h x ox C (some (dictOf es n)) ∧ ∀ name, getL name es = some (af name)
theorem ObH.ob {x C : Addr} {af : Str → Option Value} (o : ObH H h x C af) : Ob h x C af := let ⟨ox, es, n, _, _, I, q⟩ := o; ⟨ox, es, n, I, q⟩
theorem ObH.to {H' : List Addr} {h' : Heap} {x C : Addr} {af : Str → Option Value} (o : ObH H h x C af) (t : To H h H' h') : ObH H' h' x C af := by
  obtain ⟨ox, es, n, n1, n2, I, q⟩ := o
  refine ⟨ox, es, n, (t _ _ n1 I.at_).1, ?_, ⟨(t _ _ n1 I.at_).2, I.cls, I.no, ?_⟩, q⟩
  · intro d hd
    have := I.dict
    rw [hd] at this
    exact (t _ _ (n2 d hd) this).1
  · have := I.dict
    revert this
    cases hd : ox.dict with
    | none => exact id
    | some d => exact fun z => (t _ _ (n2 d hd) z).2
noncomputable def PL (V H : List Addr) (h : Heap) (l : Addr) (ds : List D) : Prop := l ∉ H ∧ ∃ vs, h.PlainList l vs ∧ RdAll (V ++ H) h ds vs.toList
theorem PL.rd {V : List Addr} {l : Addr} {ds : List D} (p : PL V H h l ds) : Rd H h (.list ds) (.ref l) :=
  let ⟨n, vs, hp, r⟩ := p; ⟨l, vs.toList, rfl, n, by simpa using hp.isList, r.to (To.less fun b hb => List.mem_append_right _ hb)⟩
structure To2 (V H : List Addr) (h : Heap) (H' : List Addr) (h' : Heap) : Prop where
  a : To H h H' h'
  b : To (V ++ H) h (V ++ H') h'
theorem PL.to {V : List Addr} {H' : List Addr} {h' : Heap} {l : Addr} {ds : List D} (p : PL V H h l ds) (t : To2 V H h H' h') : PL V H' h' l ds := by
  obtain ⟨n, vs, ⟨k, hp⟩, r⟩ := p
  exact ⟨(t.a _ _ n hp).1, vs, ⟨k, (t.a _ _ n hp).2⟩, r.to t.b⟩
theorem To2.ext {V : List Addr} {h' : Heap} (x : Ext h h') : To2 V H h H h' := ⟨To.ext x, To.ext x⟩
theorem To2.mv {V B : List Addr} {h' : Heap} (x : Mv B h h') (q : ∀ b ∈ B, b ∈ H) : To2 V H h H h' := ⟨To.mv x q, To.mv x fun b hb => List.mem_append_right _ (q b hb)⟩
theorem To2.more {V H' : List Addr} {h' : Heap} (x : Ext h h') (q : ∀ b, b ∈ H' → b ∈ H ∨ h.get? b = none) : To2 V H h H' h' := ⟨To.more x q, To.more x fun b hb => (List.mem_append.mp hb).elim (fun z => .inl (List.mem_append_left _ z)) fun z => (q b z).imp (fun y => List.mem_append_right _ y) id⟩
theorem To2.less {V H' : List Addr} (q : ∀ b, b ∈ H' → b ∈ H) : To2 V H h H' h := ⟨To.less q, To.less fun b hb => (List.mem_append.mp hb).elim (fun z => List.mem_append_left _ z) fun z => List.mem_append_right _ (q b z)⟩
structure BA where
  (b to ta ts td nu sn sw fn fa fr : Addr)
  (t0 t1 t2 : Nat)
noncomputable def BA.V (a : BA) : List Addr := [a.to, a.ta, a.ts, a.td, a.nu, a.sn, a.sw, a.fn, a.fa, a.fr]
noncomputable def BA.afm (m : Nat) (a : BA) : Str → Option Value := fun x => ([(S "sort_names", Value.ref a.sn), (S "sort_widths", .ref a.sw), (S "fun_names", .ref a.fn), (S "fun_args", .ref a.fa), (S "fun_results", .ref a.fr), (S "fresh_count", .int 0 a.t0),
  (S "term_ops", .ref a.to), (S "term_args", .ref a.ta), (S "term_sorts", .ref a.ts), (S "term_datas", .ref a.td), (S "numbers", .ref a.nu)] ++ [(S "true_number", Value.int 1 a.t1), (S "false_number", .int 2 a.t2)].take m).lookup x
noncomputable abbrev BA.af (a : BA) : Str → Option Value := a.afm 2
structure BS where
  ts : List Key
  ns : Nat
  nf : Nat
noncomputable def opsD (ts : List Key) : List D := .str (S "") :: ts.map fun k => .str k.1
noncomputable def argsD (ts : List Key) : List D := .tup [] :: ts.map fun k => .tup (k.2.1.map .int)
noncomputable def sortsD (ts : List Key) : List D := .int 0 :: ts.map fun k => .int k.2.2.1
noncomputable def datasD (ts : List Key) : List D := .int 0 :: ts.map fun k => .int k.2.2.2
noncomputable def NumOk (ts : List Key) (xs : List (Key × Addr × Value)) : Prop := xs.map (·.1) = ts ∧ ∀ (i : Nat) (x : Key × Addr × Value), xs[i]? = some x → ∃ t, x.2.2 = .int (i + 1 : Nat) t
noncomputable def Num (w : World) (V H : List Addr) (h : Heap) (d : Addr) (ts : List Key) : Prop := d ∉ H ∧ ∃ xs, h.DictOfH (keyKind prg w) d xs ∧ NumOk ts xs ∧ ∀ x ∈ xs, Rd (V ++ H) h x.1.d (.ref x.2.1)
theorem Num.to {V H' : List Addr} {h' : Heap} {d : Addr} {ts : List Key} (p : Num w V H h d ts) (t : To2 V H h H' h') (ok : ∀ k ∈ ts, PyData.strOk k.1 = true) : Num w V H' h' d ts := by
  obtain ⟨n, xs, ⟨o, es, ep, e1, e2, e3, e4, e5, e6⟩, nk, r⟩ := p
  have r' : ∀ x ∈ xs, Rd (V ++ H') h' x.1.d (.ref x.2.1) := fun x hx => (r x hx).to t.b
  refine ⟨(t.a _ _ n e1).1, xs, ⟨o, es, ep, (t.a _ _ n e1).2, e2, e3, e4, fun x hx => ?_, e6⟩, nk, r'⟩
  obtain ⟨a, ea, ka⟩ := Key.at_of (ok x.1 (nk.1 ▸ List.mem_map_of_mem (f := (·.1)) hx)) (r' x hx)
  cases ea; exact ka
noncomputable def D.noTab : D → Bool
  | .tab _ => false
  | .list l => noTabs l
  | .tup l => noTabs l
  | _ => true
where noTabs : List D → Bool
  | [] => true
  | d :: r => d.noTab && noTabs r
noncomputable abbrev noTabs (l : List D) : Bool := D.noTab.noTabs l
theorem noTabs_app {l r : List D} : noTabs (l ++ r) = (noTabs l && noTabs r) := by
  induction l with
  | nil => simp [noTabs, D.noTab.noTabs]
  | cons d l ih => simp only [noTabs, List.cons_append, D.noTab.noTabs] at ih ⊢; rw [ih, Bool.and_assoc]
structure Bk0 (w : World) (m : Nat) (H : List Addr) (a : BA) (st : BS) (h : Heap) : Prop where
  ob : ObH (a.V ++ H) h a.b 408 (a.afm m)
  ops : PL a.V H h a.to (opsD st.ts)
  args : PL a.V H h a.ta (argsD st.ts)
  sorts : PL a.V H h a.ts (sortsD st.ts)
  datas : PL a.V H h a.td (datasD st.ts)
  sn : ∃ ds, (ds.length = st.ns ∧ noTabs ds = true) ∧ PL a.V H h a.sn ds
  sw : ∃ ds, (ds.length = st.ns ∧ noTabs ds = true) ∧ PL a.V H h a.sw ds
  fn : ∃ ds, (ds.length = st.nf ∧ noTabs ds = true) ∧ PL a.V H h a.fn ds
  fa : ∃ ds, (ds.length = st.nf ∧ noTabs ds = true) ∧ PL a.V H h a.fa ds
  fr : ∃ ds, (ds.length = st.nf ∧ noTabs ds = true) ∧ PL a.V H h a.fr ds
  num : Num w a.V H h a.nu st.ts
  ok : ∀ k ∈ st.ts, PyData.strOk k.1 = true
  sm : st.ts.length ≤ 1000 ∧ st.ns ≤ 1000 ∧ st.nf ≤ 1000
  nd : a.V.Nodup
  sys : (a.nu == sysModules) = false
noncomputable abbrev Bk (w : World) (H : List Addr) (a : BA) (st : BS) (h : Heap) : Prop := Bk0 w 2 H a st h
theorem Bk0.to {m : Nat} {H' : List Addr} {h' : Heap} {a : BA} {st : BS} (p : Bk0 w m H a st h) (t : To2 a.V H h H' h') : Bk0 w m H' a st h' :=
  { ob := p.ob.to t.b, ops := p.ops.to t, args := p.args.to t, sorts := p.sorts.to t, datas := p.datas.to t
    sn := let ⟨d, e, q⟩ := p.sn; ⟨d, e, q.to t⟩, sw := let ⟨d, e, q⟩ := p.sw; ⟨d, e, q.to t⟩, fn := let ⟨d, e, q⟩ := p.fn; ⟨d, e, q.to t⟩
    fa := let ⟨d, e, q⟩ := p.fa; ⟨d, e, q.to t⟩, fr := let ⟨d, e, q⟩ := p.fr; ⟨d, e, q.to t⟩
    num := p.num.to t p.ok, ok := p.ok, sm := p.sm, nd := p.nd, sys := p.sys }
theorem Bk0.ext {m : Nat} {h' : Heap} {a : BA} {st : BS} (p : Bk0 w m H a st h) (x : Ext h h') : Bk0 w m H a st h' := p.to (To2.ext x)
theorem Bk0.in_ {m : Nat} {W : List Addr} {h1 : Heap} {a : BA} {st : BS} (p : Bk0 w m H a st h) (x : Ext h h1) (q : ∀ b, b ∈ W → b ∈ H ∨ h.get? b = none) : Bk0 w m W a st h1 := p.to (To2.more x q)
noncomputable def BS.op (st : BS) (t : Int) : Str := match st.ts[(t - 1).toNat]? with | some k => k.1 | none => S ""
noncomputable def BS.args (st : BS) (t : Int) : List Int := match st.ts[(t - 1).toNat]? with | some k => k.2.1 | none => []
noncomputable def BS.sort (st : BS) (t : Int) : Int := match st.ts[(t - 1).toNat]? with | some k => k.2.2.1 | none => 0
noncomputable def BS.is (st : BS) (t : Int) : Prop := 0 < t ∧ t ≤ st.ts.length
theorem BS.get {st : BS} {t : Int} (i : st.is t) (f : Key → D) (d : D) : (d :: st.ts.map f)[t.toNat]? = (st.ts[(t - 1).toNat]?).map f := by
  obtain ⟨i1, i2⟩ := i
  obtain ⟨n, rfl⟩ : ∃ n : Nat, t = n + 1 := ⟨(t - 1).toNat, by omega⟩
  rw [show ((n : Int) + 1).toNat = n + 1 by omega, show ((n : Int) + 1 - 1).toNat = n by omega, List.getElem?_cons_succ, List.getElem?_map]
theorem BS.some {st : BS} {t : Int} (i : st.is t) : ∃ k, st.ts[(t - 1).toNat]? = some k := ⟨st.ts[(t - 1).toNat]'(by have := i.1; have := i.2; omega), List.getElem?_eq_getElem _⟩
theorem BS.opsAt {st : BS} {t : Int} (i : st.is t) : (opsD st.ts)[t.toNat]? = Option.some (.str (st.op t)) := by
  obtain ⟨k, e⟩ := BS.some i; unfold opsD BS.op; rw [BS.get i, e]; rfl
theorem BS.argsAt {st : BS} {t : Int} (i : st.is t) : (argsD st.ts)[t.toNat]? = Option.some (.tup ((st.args t).map .int)) := by
  obtain ⟨k, e⟩ := BS.some i; unfold argsD BS.args; rw [BS.get i, e]; rfl
theorem BS.sortsAt {st : BS} {t : Int} (i : st.is t) : (sortsD st.ts)[t.toNat]? = Option.some (.int (st.sort t)) := by
  obtain ⟨k, e⟩ := BS.some i; unfold sortsD BS.sort; rw [BS.get i, e]; rfl
theorem lk195 : (KF w.params).lookup 195 = Option.some o195 := by kernel_rfl
theorem lk202 : (KF w.params).lookup 202 = Option.some o202 := by kernel_rfl
theorem lk209 : (KF w.params).lookup 209 = Option.some o209 := by kernel_rfl
theorem op_fn {a : BA} {st : BS} {t : Int} (g : Gd w mg mb h) (hdm : Dm H h) (bk : Bk w H a st h) (i : st.is t) : Fn w 1 H h 195 [.obj a.b, .int t] (.str (st.op t)) := by
  refine Fn.enter (ps := [S "self", S "t"]) g hdm lk195 (by kernel_rfl) (args2 fun _ _ => rfl) rfl (fun n => rfl) (by decide) rfl rfl rfl (fun L A' W h0 h1 r e hH hW F => ?_)
  conv => arg 7; whnf
  have b1 := bk.in_ (e.trans F.ext) hW
  have g1 := g.ext (e.trans F.ext)
  have sm := bk.sm.1
  have := i.2
  refine Xs.retD (Ev.itemL (Ev.attr g1 F.var b1.ob.ob rfl b1.ops.rd (by kernel_rfl)) F.var (by have := i.1; omega) (BS.opsAt i) (by omega)) fun v h' x r => ⟨F.ext.trans x, r⟩
theorem Rd.int {i : Int} {t : Nat} : Rd H h (.int i) (.int i t) := ⟨t, rfl⟩
noncomputable def numFrom : List Key → Key → Nat → Nat
  | [], _, _ => 0
  | x :: r, k, n => if x = k then n else numFrom r k (n + 1)
noncomputable def numOf (ts : List Key) (k : Key) : Int := numFrom ts k 1
theorem at_num {k : Key} : ∀ {xs : List (Key × Addr × Value)} {n : Nat}, 0 < n → (∀ (i : Nat) (x : Key × Addr × Value), xs[i]? = some x → ∃ t, x.2.2 = .int (i + n : Nat) t) →
    (numFrom (xs.map (·.1)) k n = 0 → atKey xs k = none) ∧ (numFrom (xs.map (·.1)) k n ≠ 0 → ∃ p t, atKey xs k = some p ∧ p.2 = .int (numFrom (xs.map (·.1)) k n) t)
  | [], n, _, _ => ⟨fun _ => rfl, fun q => absurd rfl q⟩
  | x :: xs, n, hn, q => by
    by_cases e : x.1 = k
    · have e0 : numFrom ((x :: xs).map (·.1)) k n = n := by simp [numFrom, e]
      refine ⟨fun z => by omega, fun _ => ?_⟩
      obtain ⟨t, ht⟩ := q 0 x rfl
      exact ⟨x.2, t, by simp [atKey, e], by rw [e0, ht, Nat.zero_add]⟩
    · have e0 : numFrom ((x :: xs).map (·.1)) k n = numFrom (xs.map (·.1)) k (n + 1) := by simp [numFrom, e]
      have e1 : atKey (x :: xs) k = atKey xs k := by simp [atKey, List.find?_cons, e]
      rw [e0, e1]
      refine at_num (Nat.succ_pos n) fun i y hy => ?_
      obtain ⟨t, ht⟩ := q (i + 1) y hy
      exact ⟨t, by rw [ht, show i + 1 + n = i + (n + 1) by omega]⟩
theorem NumOk.get {ts : List Key} {xs : List (Key × Addr × Value)} {k : Key} {t : Nat} (o : NumOk ts xs) : ∃ t', ((atKey xs k).map (·.2)).getD (.int 0 t) = .int (numOf ts k) t' := by
  obtain ⟨e, q⟩ := o
  obtain ⟨a, b⟩ := at_num (k := k) Nat.one_pos q
  unfold numOf
  rw [← e]
  by_cases z : numFrom (xs.map (·.1)) k 1 = 0
  · rw [a z, z]; exact ⟨t, rfl⟩
  · obtain ⟨p, t', hp, hv⟩ := b z
    rw [hp]; exact ⟨t', hv⟩
theorem callWith_get {pos : Pos} {d : Addr} {ke de : Expr} {ts : List Key} {k : Key} (hh : A.units + 100 < cLine) (n : Num w W H h d ts) (ok : ∀ k ∈ ts, PyData.strOk k.1 = true) (hk : PyData.strOk k.1 = true) (sys : (d == sysModules) = false)
    (x : Ev w A H env h ke k.d) (y : Ev w A H env h de (.int 0)) : Gv w A h (callWith pos (.builtin "dict.get") [.ref d] [(false, eval ke env), (false, eval de env)] []) (fun v _ => ∃ t, v = .int (numOf ts k) t) := fun s Q E e kq => by
  refine wpAny_dict_get2_heap (knd := keyKind prg w) (by show A.units + 1 + 8 < cLine; omega) sys (x s _ E e fun u h1 tk1 x1 r1 => y _ _ E (e.trans x1) fun v h2 tk2 x2 r2 => ?_)
  obtain ⟨a, rfl, ka⟩ := Key.at_of hk (r1.ext x2)
  obtain ⟨t, rfl⟩ := r2
  obtain ⟨_, xs, dx, nk, _⟩ := n.to (To2.ext (e.trans (x1.trans x2))) ok
  refine ⟨a, k, xs, rfl, ka, dx, ?_⟩
  obtain ⟨t', ht'⟩ := nk.get (k := k) (t := t)
  rw [ht']
  exact kq _ _ _ (x1.trans x2) ⟨_, rfl⟩
theorem dict_noDict {h : Heap} {d : Addr} {xs : List (Key × Addr × Value)} (x : h.DictOfH (keyKind prg w) d xs) : ∀ a, (Value.ref d) = .ref a → ∃ o, h.get? a = some o ∧ o.dict = none := fun a e => by
  obtain ⟨o, _, _, e1, e2, _⟩ := x
  cases e; exact ⟨o, e1, e2.2.1⟩
theorem Ev.numGet {o ke de : Expr} {apos pos : Pos} {d : Addr} {ts : List Key} {k : Key} {j : Nat} (hm : Rm A j) (he : Ev w A H env h o (.obj d)) (n : Num w W H h d ts) (ok : ∀ k ∈ ts, PyData.strOk k.1 = true) (hk : PyData.strOk k.1 = true) (sys : (d == sysModules) = false)
    (x : Ev w A H env h ke k.d) (y : Ev w A H env h de (.int 0)) {pl : Sem Bool}
    (hs : eval (.Call (.Attribute o (Str.ofString "get") apos) [ke, de] [] pos) env = (do let ov ← eval o env; standAt (Pos.atName apos); let (f, first) ← holding [ov] (getMethod ov (Str.ofString "get") pl); callWith pos f first (backTo pos (starEach [ke, de] env)) []) := by rfl)
    (hb : backTo pos (starEach [ke, de] env) = [(false, eval ke env), (false, eval de env)] := by rfl) : Ev w A H env h (.Call (.Attribute o (Str.ofString "get") apos) [ke, de] [] pos) (.int (numOf ts k)) := fun s Q E e kq => by
  refine MethodCall_ (pl := pl) (he s _ E e fun u h1 tk x1 r => ?_) hs
  cases r
  obtain ⟨_, xs, dx, nk, _⟩ := n.to (To2.ext (e.trans x1)) ok
  refine getMethod_builtin (s := { s with heap := h1, toks := tk }) dx.typeIs PySem.F.plainAttrs_dict PySem.F.slot_dict_get PySem.F.type_dict_get (dict_noDict dx) ?_
  rw [hb]
  exact callWith_get hm.u64 n ok hk sys x y _ Q E (e.trans x1) fun v h2 tk2 x2 p => kq v h2 tk2 (x1.trans x2) p
theorem lk230 : (KF w.params).lookup 230 = some o230 := by kernel_rfl
theorem lk244 : (KF w.params).lookup 244 = some o244 := by kernel_rfl
theorem lk272 : (KF w.params).lookup 272 = some o272 := by kernel_rfl
theorem lk286 : (KF w.params).lookup 286 = some o286 := by kernel_rfl
variable {a : BA} {st : BS}
theorem args_fn {t : Int} (g : Gd w mg mb h) (hdm : Dm H h) (bk : Bk w H a st h) (i : st.is t) : Fn w 1 H h 202 [.obj a.b, .int t] (.tup ((st.args t).map .int)) := by
  refine Fn.enter (ps := [S "self", S "t"]) g hdm lk202 (by kernel_rfl) (args2 fun _ _ => rfl) rfl (fun n => rfl) (by decide) rfl rfl rfl (fun L A' W h0 h1 r e hH hW F => ?_)
  conv => arg 7; whnf
  have b1 := bk.in_ (e.trans F.ext) hW
  have g1 := g.ext (e.trans F.ext)
  have sm := bk.sm.1
  have := i.2
  refine Xs.retD (Ev.itemL (Ev.attr g1 F.var b1.ob.ob rfl b1.args.rd (by kernel_rfl)) F.var (by have := i.1; omega) (BS.argsAt i) (by omega)) fun v h' x r => ⟨F.ext.trans x, r⟩
theorem sort_fn {t : Int} (g : Gd w mg mb h) (hdm : Dm H h) (bk : Bk w H a st h) (i : st.is t) : Fn w 1 H h 209 [.obj a.b, .int t] (.int (st.sort t)) := by
  refine Fn.enter (ps := [S "self", S "t"]) g hdm lk209 (by kernel_rfl) (args2 fun _ _ => rfl) rfl (fun n => rfl) (by decide) rfl rfl rfl (fun L A' W h0 h1 r e hH hW F => ?_)
  conv => arg 7; whnf
  have b1 := bk.in_ (e.trans F.ext) hW
  have g1 := g.ext (e.trans F.ext)
  have sm := bk.sm.1
  have := i.2
  refine Xs.retD (Ev.itemL (Ev.attr g1 F.var b1.ob.ob rfl b1.sorts.rd (by kernel_rfl)) F.var (by have := i.1; omega) (BS.sortsAt i) (by omega)) fun v h' x r => ⟨F.ext.trans x, r⟩
theorem Ev.cast {e : Expr} {d d' : D} (x : Ev w A H env h e d) (q : d = d') : Ev w A H env h e d' := q ▸ x
theorem Ev.lenL {e : Expr} {pos : Pos} {ds : List D} (g : Gd w mg mb h) (hf : Nm w A env h (S "len") (.builtin "len")) (hz : ds.length < 2 ^ 63) (x : Ev w A H env h e (.list ds)) (fp : Pos)
    (hst : starEach [e] env = (false, eval e env) :: starEach [] env := by rfl)
    (hs : eval (.Call (.Name (S "len") fp) [e] [] pos) env = (do let __do_lift ← eval (.Name (S "len") fp) env; callWith pos __do_lift [] (backTo pos (starEach [e] env)) (backToKw pos (keywordEach [] env))) := by rfl) :
    Ev w A H env h (.Call (.Name (S "len") fp) [e] [] pos) (.int ds.length) := Ev.callB (hf fp) (.cons x .nil hst) (CB.lenL hz) hs
theorem nmB {x : Str} {id : String} (g : Gd w mg mb h) (q : nsIn (KF w.params) mainGlobals x = some none) (hb : bootBuiltins x = some (.builtin id)) (hn : x ≠ "__name__" := by decide) (hg : env.globals = mainGlobals := by rfl) (hbb : env.builtins = builtinsNs := by rfl) (hk : env.scope.kind = .function := by rfl) (hl : env.kindOf x = some .globalImplicit := by rfl) (hd : (x == ("__debug__" : Str)) = false := by decide) : Nm w A env h x (.builtin id) :=
  Nm.builtin g q hb hn hg hbb hk hl hd
theorem size_fn (g : Gd w mg mb h) (hdm : Dm H h) (bk : Bk w H a st h) : Fn w 1 H h 230 [.obj a.b] (.int st.ts.length) := by
  refine Fn.enter (ps := [S "self"]) g hdm lk230 (by kernel_rfl) (args1 fun _ => rfl) rfl (fun n => rfl) (by decide) rfl rfl rfl (fun L A' W h0 h1 r e hH hW F => ?_)
  conv => arg 7; whnf
  have b1 := bk.in_ (e.trans F.ext) hW
  have g1 := g.ext (e.trans F.ext)
  have sm := bk.sm.1
  have el : (opsD st.ts).length = st.ts.length + 1 := by simp [opsD]
  refine Xs.retD (Ev.cast (Ev.bin (Ev.lenL g1 (nmB g1 (by kernel_rfl) (by kernel_rfl)) (by omega) (Ev.attr g1 F.var b1.ob.ob rfl b1.ops.rd (by kernel_rfl)) _) Ev.int Bin.sub) (by rw [el]; congr 1; omega)) fun v h' x r => ⟨F.ext.trans x, r⟩
theorem true_fn (g : Gd w mg mb h) (hdm : Dm H h) (bk : Bk w H a st h) : Fn w 1 H h 272 [.obj a.b] (.int 1) := by
  refine Fn.enter (ps := [S "self"]) g hdm lk272 (by kernel_rfl) (args1 fun _ => rfl) rfl (fun n => rfl) (by decide) rfl rfl rfl (fun L A' W h0 h1 r e hH hW F => ?_)
  conv => arg 7; whnf
  have b1 := bk.in_ (e.trans F.ext) hW
  have g1 := g.ext (e.trans F.ext)
  refine Xs.retD (Ev.attr g1 F.var b1.ob.ob rfl Rd.int (by kernel_rfl)) fun v h' x r => ⟨F.ext.trans x, r⟩
theorem bool_fn {c : Bool} (g : Gd w mg mb h) (hdm : Dm H h) (bk : Bk w H a st h) : Fn w 1 H h 286 [.obj a.b, .bool c] (.int (if c then 1 else 2)) := by
  refine Fn.enter (ps := [S "self", S "holds"]) g hdm lk286 (by kernel_rfl) (args2 fun _ _ => rfl) rfl (fun n => rfl) (by decide) rfl rfl rfl (fun L A' W h0 h1 r e hH hW F => ?_)
  conv => arg 7; whnf
  have b1 := bk.in_ (e.trans F.ext) hW
  have g1 := g.ext (e.trans F.ext)
  refine Xs.retD (Ev.ite (Et.plain F.var rfl) (fun z => ?_) (fun z => ?_)) fun v h' x r => ⟨F.ext.trans x, r⟩
  · exact (Ev.attr g1 F.var b1.ob.ob rfl Rd.int (by kernel_rfl)).cast (by rw [z]; rfl)
  · exact (Ev.attr g1 F.var b1.ob.ob rfl Rd.int (by kernel_rfl)).cast (by rw [z]; rfl)
theorem find_fn {k : Key} (g : Gd w mg mb h) (hdm : Dm H h) (bk : Bk w H a st h) (hk : PyData.strOk k.1 = true) : Fn w 1 H h 244 [.obj a.b, .str k.1, .tup (k.2.1.map .int), .int k.2.2.1, .int k.2.2.2] (.int (numOf st.ts k)) := by
  refine Fn.enter (ps := [S "self", S "op", S "args", S "sort", S "data"]) g hdm lk244 (by kernel_rfl) (args5 fun _ _ _ _ _ => rfl) rfl (fun n => rfl) (by decide) rfl rfl rfl (fun L A' W h0 h1 r e hH hW F => ?_)
  conv => arg 7; whnf
  have b1 := bk.in_ (e.trans F.ext) hW
  have g1 := g.ext (e.trans F.ext)
  refine Xs.retD (Ev.numGet r (Ev.attr g1 F.var b1.ob.ob rfl (d := .obj a.nu) rfl (by kernel_rfl)) b1.num b1.ok hk b1.sys (Ev.tup F.dm (.cons F.var (.cons F.var (.cons F.var (.cons F.var .nil rfl) rfl) rfl) rfl)) Ev.int) fun v h' x r => ⟨F.ext.trans x, r⟩
theorem nmT {x : Str} {T : String} (g : Gd w mg mb h) (q : nsIn (KF w.params) mainGlobals x = some none) (hb : bootBuiltins x = some (.type T)) (hn : x ≠ "__name__" := by decide) (hg : env.globals = mainGlobals := by rfl) (hbb : env.builtins = builtinsNs := by rfl) (hk : env.scope.kind = .function := by rfl) (hl : env.kindOf x = some .globalImplicit := by rfl) (hd : (x == ("__debug__" : Str)) = false := by decide) : Nm w A env h x (.type T) :=
  Nm.builtin g q hb hn hg hbb hk hl hd
theorem Ev.typ {x : Str} {T : String} {pos : Pos} (n : Nm w A env h x (.type T)) : Ev w A H env h (.Name x pos) (.typ T) := (n pos).imp fun v h' e => e
theorem Ev.fn {x : Str} {f : Addr} {pos : Pos} (g : Gd w mg mb h) (q : nsIn (KF w.params) mainGlobals x = some (some (.ref f))) (hg : env.globals = mainGlobals := by rfl) (hk : env.scope.kind = .function := by rfl) (hl : env.kindOf x = some .globalImplicit := by rfl) (hd : (x == ("__debug__" : Str)) = false := by decide) : Ev w A H env h (.Name x pos) (.obj f) :=
  ((Nm.global g q hg hk hl hd) pos).imp fun v h' e => e
theorem isi_int_int {i : Int} : CB w A H h "isinstance" [.int i, .typ "int"] (.bool true) := fun vs h₁ _ r s Q E e k => by
  obtain ⟨u, v, rfl, ⟨t, rfl⟩, rfl⟩ := two r
  exact call_isinstance_yes (T := "int") (Tx := "int") rfl (by rfl) (by rw [isSubtype_type]; kernel_rfl) (k _ s.heap s.toks (Ext.refl _) rfl)
theorem isi_bool_int {i : Bool} : CB w A H h "isinstance" [.bool i, .typ "int"] (.bool true) := fun vs h₁ _ r s Q E e k => by
  obtain ⟨u, v, rfl, rfl, rfl⟩ := two r
  exact call_isinstance_yes (T := "int") (Tx := "bool") rfl (by rfl) (by rw [isSubtype_type]; kernel_rfl) (k _ s.heap s.toks (Ext.refl _) rfl)
theorem isi_bool_bool {i : Bool} : CB w A H h "isinstance" [.bool i, .typ "bool"] (.bool true) := fun vs h₁ _ r s Q E e k => by
  obtain ⟨u, v, rfl, rfl, rfl⟩ := two r
  exact call_isinstance_yes (T := "bool") (Tx := "bool") rfl (by rfl) (by rw [isSubtype_type]; kernel_rfl) (k _ s.heap s.toks (Ext.refl _) rfl)
theorem isi_int_bool {i : Int} : CB w A H h "isinstance" [.int i, .typ "bool"] (.bool false) := fun vs h₁ _ r s Q E e k => by
  obtain ⟨u, v, rfl, ⟨t, rfl⟩, rfl⟩ := two r
  refine call_isinstance_of (isinstance_nested_false_int (T := "bool") (by decide) (by rfl) (by rw [isSubtype_type]; kernel_rfl) ?_)
  exact k _ s.heap _ (Ext.refl _) rfl
theorem isi_none_int : CB w A H h "isinstance" [.none, .typ "int"] (.bool false) := fun vs h₁ _ r s Q E e k => by
  obtain ⟨u, v, rfl, rfl, rfl⟩ := two r
  refine call_isinstance_of (isinstance_nested_false_none (T := "int") (by decide) (by rfl) (by rw [isSubtype_type]; kernel_rfl) ?_)
  exact k _ s.heap _ (Ext.refl _) rfl
theorem lk76 : (KF w.params).lookup 76 = some o76 := by kernel_rfl
theorem lk83 : (KF w.params).lookup 83 = some o83 := by kernel_rfl
noncomputable def D.isInt : D → Bool
  | .int _ => true
  | _ => false
theorem number_fn {d : D} (g : Gd w mg mb h) (hdm : Dm H h) (hd : (∃ i, d = .int i) ∨ (∃ b, d = .bool b) ∨ d = .none) : Fn w 1 H h 76 [d] (.bool d.isInt) := by
  refine Fn.enter (ps := [S "thing"]) g hdm lk76 (by kernel_rfl) (args1 fun _ => rfl) rfl (fun n => rfl) (by decide) rfl rfl rfl (fun L A' W h0 h1 r e hH hW F => ?_)
  conv => arg 7; whnf
  have g1 := g.ext (e.trans F.ext)
  refine Xs.retD (d := .bool d.isInt) ?_ fun v h' x r => ⟨F.ext.trans x, r⟩
  have nI : Nm w A' (envOfC (S "is_number") (dScope (top 5)) L 76 (Value.ref 75)) h1 (S "isinstance") (.builtin "isinstance") := nmB g1 (by kernel_rfl) (by kernel_rfl)
  have tI : Nm w A' (envOfC (S "is_number") (dScope (top 5)) L 76 (Value.ref 75)) h1 (S "int") (.type "int") := nmT g1 (by kernel_rfl) (by kernel_rfl)
  have tB : Nm w A' (envOfC (S "is_number") (dScope (top 5)) L 76 (Value.ref 75)) h1 (S "bool") (.type "bool") := nmT g1 (by kernel_rfl) (by kernel_rfl)
  rcases hd with ⟨i, rfl⟩ | ⟨b, rfl⟩ | rfl
  · exact Ev.and2 (Ev.callB (nI _) (.cons F.var (.cons (Ev.typ tI) .nil rfl) rfl) isi_int_int) rfl (fun _ => Ev.not (Ev.callB (nI _) (.cons F.var (.cons (Ev.typ tB) .nil rfl) rfl) isi_int_bool) rfl) (fun z => nomatch z)
  · exact Ev.and2 (Ev.callB (nI _) (.cons F.var (.cons (Ev.typ tI) .nil rfl) rfl) isi_bool_int) rfl (fun _ => Ev.not (Ev.callB (nI _) (.cons F.var (.cons (Ev.typ tB) .nil rfl) rfl) isi_bool_bool) rfl) (fun z => nomatch z)
  · exact Ev.and2 (Ev.callB (nI _) (.cons F.var (.cons (Ev.typ tI) .nil rfl) rfl) isi_none_int) rfl (fun z => nomatch z) (fun _ => rfl)
theorem same_fn {a b : List Int} (g : Gd w mg mb h) (hdm : Dm H h) (ha : a.length < 64) (hb : b.length < 64) : Fn w 1 H h 83 [.list (a.map .int), .list (b.map .int)] (.bool (decide (srt a = srt b))) := by
  refine Fn.enter (ps := [S "one", S "other"]) g hdm lk83 (by kernel_rfl) (args2 fun _ _ => rfl) rfl (fun n => rfl) (by decide) rfl rfl rfl (fun L A' W h0 h1 r e hH hW F => ?_)
  conv => arg 7; whnf
  have g1 := g.ext (e.trans F.ext)
  have nI : Nm w A' (envOfC (S "are_same_sets") (dScope (top 6)) L 83 (Value.ref 82)) h1 (S "sorted") (.builtin "sorted") := nmB g1 (by kernel_rfl) (by kernel_rfl)
  exact Xs.retD (Ev.cmp (Ev.callB (nI _) (.cons F.var .nil rfl) (CB.sorted F.dm ha)) (Ev.callB (nI _) (.cons F.var .nil rfl) (CB.sorted F.dm hb)) (Cm.eqL r)) fun v h' x r => ⟨F.ext.trans x, r⟩
end
section
variable {w : World} {A : Around} {h h0 : Heap} {H W : List Addr} {env : Env} {mg mb : Str → Option Value} {vars : List (Str × D)}
theorem Fm.hide {N : List Addr} {h' : Heap} (F : Fm h0 W env vars h) (x : Ext h h') (n1 : ∀ b ∈ N, h.get? b = none) (n2 : ∀ b ∈ N, h'.get? b ≠ none) : Fm h0 (N ++ W) env vars h' :=
  have t : To W h (N ++ W) h' := To.more x fun b hb => (List.mem_append.mp hb).elim (fun z => .inr (n1 b z)) .inl
  { fn := F.fn, ext := F.ext.trans x, dm := fun b hb => (List.mem_append.mp hb).elim (n2 b) ((F.dm.ext x) b), inW := fun b hb => List.mem_append_right _ (F.inW b hb), fresh := F.fresh, apart := F.apart, off := F.off
    ns := let ⟨m, n, q⟩ := F.ns; ⟨m, n.keeps x, fun y d a b => let ⟨v, z, r⟩ := q y d a b; ⟨v, z, r.to t⟩⟩
    cell := fun y c a => let ⟨o, n, q⟩ := F.cell y c a; ⟨o, n.keeps x, fun d a b => let ⟨v, z, r⟩ := q d a b; ⟨v, z, r.to t⟩⟩ }
theorem Fm.drop {I : Addr} {h1 h2 : Heap} (F : Fm h0 (I :: W) env vars h1) (x : ExtO [I] h1 h2) (f : h0.get? I = none) (n : I ∉ W) (q : ∀ b ∈ frA env, b ∈ W) : Fm h0 W env vars h2 :=
  have ne : ∀ {b : Addr}, b ∈ W → b ∉ [I] := fun hb z => n (List.mem_singleton.mp z ▸ hb)
  have t : To (I :: W) h1 W h2 := fun b o hb e => ⟨fun z => hb (.tail _ z), x b o (fun z => hb (by rw [List.mem_singleton.mp z]; exact .head _)) e⟩
  { fn := F.fn, ext := fun b o e => x b o (fun z => by rw [List.mem_singleton.mp z, f] at e; cases e) (F.ext b o e)
    dm := fun b hb z => by
      cases r : h1.get? b with
      | none => exact F.dm b (.tail _ hb) r
      | some o => rw [x b o (ne hb) r] at z; cases z
    inW := q, fresh := F.fresh, apart := F.apart, off := F.off
    ns := let ⟨m, n, p⟩ := F.ns; ⟨m, n.at' fun o e => x _ o (ne (q _ (.head _))) e, fun y d a b => let ⟨v, z, r⟩ := p y d a b; ⟨v, z, r.to t⟩⟩
    cell := fun y c a => let ⟨o, ⟨oc, n, nd⟩, p⟩ := F.cell y c a; ⟨o, ⟨oc, x _ _ (ne (q _ (frA_cell a))) n, nd⟩, fun d a b => let ⟨v, z, r⟩ := p d a b; ⟨v, z, r.to t⟩⟩ }
noncomputable def Bs (w : World) (A : Around) (env : Env) (target : Expr) (I : Addr) (v : Value) (h : Heap) (K : Heap → Prop) : Prop :=
  ∀ (s : Shared) (Q : Unit → Shared → Prop) (E E' : Value → Shared → Prop), s.heap = h → (∀ h2 tk, K h2 → Q () { s with heap := h2, toks := tk }) → wpAny (model prg w) A (letOwnedTupleGo target (.ref I) v) (fun _ s₁ => wpAny (model prg w) A (assign target env v) Q E s₁) E' s
theorem Bs.name {x : Str} {px : Pos} {I : Addr} {v : Value} {d : D} {K : Heap → Prop} (F : Fm h0 W env vars h) (r : Rd W h d v) (k : ∀ h2, Mv (frA env) h h2 → Fm h0 W env ((x, d) :: vars) h2 → K h2) (kd : locOk env x = true := by rfl) : Bs w A env (.Name x px) I v h K := fun s Q E E' e kq => by
  subst e
  show wpAny _ _ (pure ()) _ _ _
  exact wpAny_pure (wpAny_assign_Name (F.store r kd fun h' tk mv F' => kq h' tk (k h' mv F')))
variable {PN : Heap → Prop} {PR : Value → Heap → Prop} {rest body : List Stmt}
theorem Xs.forIn {target iter : Expr} {pos : Pos} {ds : List D} {J : Addr → Nat → Heap → Prop} (src : Src w A W env h iter ds) (dm : Dm W h)
    (start : ∀ I h', Ext h h' → h.get? I = none → h'.get? I ≠ none → J I 0 h')
    (step : ∀ I i h1 h2, h.get? I = none → J I i h1 → Mv [I] h1 h2 → J I i h2)
    (turn : ∀ I i d h1 v, h.get? I = none → ds[i]? = some d → J I i h1 → Rd (I :: W) h1 d v → IsItr h1 I → Bs w A env target I v h1 fun h2 => Xs w A env (fun h3 => J I (i + 1) h3 ∧ Mv W h1 h3) PR h2 body)
    (fin : ∀ I h1 h2, h.get? I = none → J I ds.length h1 → ExtO [I] h1 h2 → Xs w A env PN PR h2 rest) (hs : ∀ x, foldedSetIterable iter env x = pure x := by intro _; rfl) : Xs w A env PN PR h (.For target iter body [] pos :: rest) := fun s Q E e kn kr => by
  subst e
  refine wpAny_execs_cons (wpAny_For (src s _ _ (Ext.refl _) fun I fp P St h1 tk1 x1 it hI => ?_) hs)
  have hIW : I ∉ W := fun z => dm I z hI
  refine codeAny_forLoop_any (fun n s' => ∃ h2 tk i, s' = { s with heap := h2, toks := tk } ∧ St i h2 ∧ J I i h2 ∧ i ≤ ds.length ∧ n = ds.length + 1 - i ∧ Mv (I :: W) h1 h2) ?_ (ds.length + 1)
    ⟨h1, tk1, 0, rfl, it.st, start I h1 x1 hI (it.own _ _ it.st).some, Nat.zero_le _, rfl, Mv.refl _ _⟩
  rintro n s' ⟨h2, tk, i, rfl, st, j, hi, rfl, mv⟩
  have mv1 : ∀ {a b : Heap}, ExtO [I] a b → (∀ q, a.get? I ≠ none → q = b → b.get? I ≠ none) → Mv [I] a b := fun x q b o e => by
    by_cases z : b = I
    · subst z
      cases y : (_ : Heap).get? b with
      | none => exact absurd y (q _ (by rw [e]; exact fun z => nomatch z) rfl)
      | some o' => exact ⟨o', rfl, fun n => absurd (.head _) n⟩
    · exact ⟨o, x b o (fun m => z (List.mem_singleton.mp m)) e, fun _ => rfl⟩
  by_cases hlt : i < ds.length
  · refine it.W.item i _ _ _ hlt st fun v h3 tk3 hP st3 x3 => ?_
    obtain ⟨d, hd, hr⟩ := it.rd i v hP
    have m3 : Mv [I] h2 h3 := mv1 x3 fun _ _ _ => (it.own _ _ st3).some
    have j3 := step I i h2 h3 hI j m3
    have mv3 : Mv (I :: W) h1 h3 := mv.trans (m3.sub fun b hb => by rw [List.mem_singleton.mp hb]; exact .head _)
    have r3 : Rd (I :: W) h3 d v := hr.off mv3.off
    refine wpAny_mono (turn I i d h3 v hI hd j3 r3 (it.own _ _ st3) { s with heap := h3, toks := tk3 } (fun _ s4 => ∃ h4 tk4, s4 = { s with heap := h4, toks := tk4 } ∧ Xs w A env (fun h5 => J I (i + 1) h5 ∧ Mv W h3 h5) PR h4 body) _ _ rfl (fun h4 tk4 k => ⟨h4, tk4, rfl, k⟩)) (fun _ s1 z => wpAny_mono z (fun _ s4 z => ?_) fun _ _ e => e) fun _ _ e => e
    obtain ⟨h4, tk4, rfl, xs⟩ := z
    refine xs _ _ _ rfl (fun h5 tk5 ⟨j5, m5⟩ => ?_) (fun v h5 tk5 p => kr v h5 tk5 p)
    refine ⟨ds.length + 1 - (i + 1), by omega, h5, tk5, i + 1, rfl, it.W.frame _ _ _ st3 (fun b hb o e => m5.off b o (fun zz => (it.out b hb).elim (fun y => hIW (y ▸ zz)) fun q => q zz) e), j5, hlt, rfl, mv3.trans (m5.sub fun b hb => .tail _ hb)⟩
  · have hin : i = ds.length := by omega
    subst hin
    refine it.W.done _ _ _ st fun h3 tk3 x3 => ?_
    exact wpAny_execs_nil (fin I h2 h3 hI j x3 { s with heap := h3, toks := tk3 } Q E rfl kn kr)
theorem Xs.while {test : Expr} {pos : Pos} {J : Nat → Heap → Prop} (n : Nat) (start : J n h)
    (turn : ∀ n h1, J n h1 → ∃ b, Et w A env h1 test b ∧ (b = true → ∀ h2, Ext h1 h2 → Xs w A env (fun h3 => ∃ m, m < n ∧ J m h3) PR h2 body) ∧ (b = false → ∀ h2, Ext h1 h2 → Xs w A env PN PR h2 rest)) :
    Xs w A env PN PR h (.While test body [] pos :: rest) := fun s Q E e kn kr => by
  subst e
  refine wpAny_execs_cons (wpAny_While (codeAny_whileLoop (fun n s' => ∃ h2 tk, s' = { s with heap := h2, toks := tk } ∧ J n h2) ?_ n ⟨s.heap, s.toks, rfl, start⟩))
  rintro n s' ⟨h2, tk, rfl, j⟩
  obtain ⟨b, t, k1, k2⟩ := turn n h2 j
  refine t _ _ _ (Ext.refl _) fun c h3 tk3 x3 q => ?_
  subst q
  cases c with
  | true =>
    rw [if_pos rfl]
    exact k1 rfl h3 x3 _ _ _ rfl (fun h4 tk4 ⟨m, lt, j4⟩ => ⟨m, lt, h4, tk4, rfl, j4⟩) (fun v h4 tk4 p => kr v h4 tk4 p)
  | false =>
    rw [if_neg (by decide)]
    exact wpAny_execs_nil (k2 rfl h3 x3 { s with heap := h3, toks := tk3 } Q E rfl kn kr)
noncomputable def Pick (vars : List (Str × D)) : List (Str × D) → Prop
  | [] => True
  | p :: r => vars.lookup p.1 = some p.2 ∧ Pick vars r
theorem Pick.get {vars : List (Str × D)} : ∀ {vs : List (Str × D)} {x : Str} {d : D}, Pick vars vs → vs.lookup x = some d → vars.lookup x = some d
  | [], _, _, _, e => nomatch e
  | p :: r, x, d, ⟨a, b⟩, e => by
    rw [List.lookup_cons] at e
    cases q : x == p.1 with
    | true => rw [q] at e; cases e; rw [beq_iff_eq.mp q]; exact a
    | false => rw [q] at e; exact Pick.get b e
theorem Fm.pick {vs : List (Str × D)} (F : Fm h0 W env vars h) (p : Pick vars vs) : Fm h0 W env vs h :=
  { F with ns := let ⟨m, n, q⟩ := F.ns; ⟨m, n, fun x d e k => q x d (p.get e) k⟩, cell := fun x c e => let ⟨o, n, q⟩ := F.cell x c e; ⟨o, n, fun d a k => q d (p.get a) k⟩ }
noncomputable def caf (b n1 n2 n3 : Addr) : Str → Option Value := fun x => [(S "bank", Value.ref b), (S "names", .ref n1), (S "assertions", .ref n2), (S "assumptions", .ref n3)].lookup x
structure Ck (h : Heap) (c b : Addr) : Prop where
  ob : ∃ n1 n2 n3, Ob h c 543 (caf b n1 n2 n3)
theorem Ck.ext {h' : Heap} {c b : Addr} (k : Ck h c b) (x : Ext h h') : Ck h' c b := ⟨let ⟨n1, n2, n3, o⟩ := k.ob; ⟨n1, n2, n3, o.ext x⟩⟩
theorem Ev.bank {e : Expr} {pos : Pos} {c b : Addr} (g : Gd w mg mb h) (he : Ev w A H env h e (.obj c)) (k : Ck h c b)
    (hs : eval (.Attribute e (S "bank") pos) env = (do let o ← eval e env; standAt (Pos.atName pos); let r ← holding [o] (getAttr o (S "bank") true); letTemporaryGo e o r; pure r) := by rfl) : Ev w A H env h (.Attribute e (S "bank") pos) (.obj b) := by
  obtain ⟨n1, n2, n3, o⟩ := k.ob
  exact Ev.attr g he o rfl (d := .obj b) rfl (by kernel_rfl) rfl hs
structure BS.Wf (st : BS) : Prop where
  nots : ∀ t, st.is t → st.op t = S "not" → ∃ x, st.args t = [x] ∧ st.is x ∧ x < t
noncomputable def BS.sgn (st : BS) : Nat → Int → Int
  | 0, t => t
  | n + 1, t => if st.op t = S "not" then -(st.sgn n (st.args t).head!) else t
noncomputable def BS.signed (st : BS) (t : Int) : Int := st.sgn t.toNat t
theorem BS.sgn_more {st : BS} (wf : st.Wf) : ∀ {n m : Nat} {t : Int}, st.is t → t.toNat ≤ n → t.toNat ≤ m → st.sgn n t = st.sgn m t
  | 0, m, t, i, h1, _ => by have := i.1; omega
  | n + 1, 0, t, i, _, h2 => by have := i.1; omega
  | n + 1, m + 1, t, i, h1, h2 => by
    unfold BS.sgn
    split
    · rename_i q
      obtain ⟨x, e, ix, lt⟩ := wf.nots t i q
      rw [e]
      show -(st.sgn n x) = -(st.sgn m x)
      have := ix.1
      rw [BS.sgn_more wf ix (n := n) (m := m) (by omega) (by omega)]
    · rfl
theorem BS.signed_not {st : BS} (wf : st.Wf) {t x : Int} (i : st.is t) (q : st.op t = S "not") (e : st.args t = [x]) : st.signed t = -(st.signed x) := by
  obtain ⟨x', e', ix, lt⟩ := wf.nots t i q
  rw [e] at e'; cases e'
  have := i.1
  obtain ⟨n, hn⟩ : ∃ n, t.toNat = n + 1 := ⟨t.toNat - 1, by omega⟩
  unfold BS.signed
  rw [hn]
  show (if st.op t = S "not" then _ else _) = _
  rw [if_pos q, e]
  show -(st.sgn n x) = _
  have := ix.1
  rw [BS.sgn_more wf ix (n := n) (m := x.toNat) (by omega) (by omega)]
theorem BS.signed_else {st : BS} {t : Int} (q : st.op t ≠ S "not") : st.signed t = t := by
  unfold BS.signed
  cases t.toNat with
  | zero => rfl
  | succ n => show (if _ then _ else _) = _; rw [if_neg q]
theorem lk488 : (KF w.params).lookup 488 = some o488 := by kernel_rfl
variable {a : BA} {st : BS} {c : Addr}
theorem intMul1 {a b : Int} (h : a = 1 ∨ a = -1) : IntMulOk a b := by
  rcases h with rfl | rfl <;> exact IntMulOk.of_left (by decide +kernel)
theorem Xs.hideR {d : D} {rest : List Stmt} (k : ∀ (PN' : Heap → Prop) (PR' : Value → Heap → Prop), (∀ {d' : D} {v : Value} {h' : Heap}, d = d' → Ext h0 h' → Rd W h' d' v → PR' v h') → Xs w A env PN' PR' h rest) : Xs w A env (fun h' => Ext h0 h' ∧ Rd W h' d .none) (fun v h' => Ext h0 h' ∧ Rd W h' d v) h rest := k _ _ fun e x r => ⟨x, e ▸ r⟩
theorem signed_fn {t : Int} (g : Gd w mg mb h) (hdm : Dm H h) (bk : Bk w H a st h) (ck : Ck h c a.b) (wf : st.Wf) (i : st.is t) : Fn w 2 H h 488 [.obj c, .int t] (.int (st.signed t)) := by
  refine Fn.enter (ps := [S "self", S "t"]) g hdm lk488 (by kernel_rfl) (args2 fun _ _ => rfl) rfl (fun n => rfl) (by decide) rfl rfl rfl (fun L A' W h0 h1 r e hH hW F => ?_)
  conv => arg 7; whnf
  refine Xs.hideR fun PN PR kr => ?_
  have sm := bk.sm.1
  refine Xs.asg F Ev.int fun h2 m2 F2 => ?_
  refine Xs.while (J := fun n h3 => ∃ t' s', Fm h0 W (envOfC (S "StepChecker.signed") (dScope (mem 14 9)) L 488 (.ref 487)) [(S "sign", .int s'), (S "t", .int t'), (S "self", .obj c)] h3 ∧ st.is t' ∧ t'.toNat = n ∧ s' * st.signed t' = st.signed t ∧ (s' = 1 ∨ s' = -1)) t.toNat ⟨t, 1, F2.pick ⟨rfl, rfl, rfl, trivial⟩, i, rfl, by omega, .inl rfl⟩ ?_
  rintro n h3 ⟨t', s', F3, i', hn, hs, h1'⟩
  have e3 := e.trans F3.ext
  have g3 := g.ext e3
  have b3 := bk.in_ e3 hW
  have c3 := ck.ext e3
  have op3 : ∀ {pos apos npos npos2 npos3 : Pos}, True := fun {_ _ _ _ _} => trivial
  refine ⟨_, Et.cmp (Ev.meth g3 r (Ev.bank g3 F3.var c3) b3.ob.ob (.cons F3.var .nil rfl) (op_fn g3 F3.dm b3 i') rfl (by kernel_rfl)) Ev.str Cm.eqS, fun z h4 x4 => ?_, fun z h4 x4 => ?_⟩
  · refine Xs.hideN fun PN kn => ?_
    have q : st.op t' = S "not" := beq_iff_eq.mp z
    obtain ⟨x, ex, ix, lt⟩ := wf.nots t' i' q
    have F4 := F3.up x4
    have g4 := g3.ext x4
    have b4 := b3.ext x4
    have ar : Fn w 1 W h4 202 [.obj a.b, .int t'] (.tup [.int x]) := by have := args_fn g4 F4.dm b4 i'; rw [ex] at this; exact this
    refine Xs.asg F4 (Ev.itemT (Ev.meth g4 r (Ev.bank g4 F4.var (c3.ext x4)) b4.ob.ob (.cons F4.var .nil rfl) ar rfl (by kernel_rfl)) Ev.int (j := 0) rfl rfl) fun h5 m5 F5 => ?_
    refine Xs.asg F5 (Ev.neg F5.var) fun h6 m6 F6 => ?_
    have := ix.1
    refine Xs.nil (kn _ ⟨x.toNat, by omega, x, -s', F6.pick ⟨rfl, rfl, rfl, trivial⟩, ix, rfl, ?_, by omega⟩)
    rw [← hs, BS.signed_not wf i' q ex]; rw [Int.neg_mul, Int.mul_neg]
  · have q := beq_no z
    have F4 := F3.up x4
    rw [BS.signed_else q] at hs
    refine Xs.retD (Ev.cast (Ev.bin F4.var F4.var (Bin.mul (intMul1 h1'))) (by rw [hs])) fun v h' x r => kr rfl (F4.ext.trans x) r
theorem Ev.chain {l m r : Expr} {o1 o2 : CmpOp} {pos : Pos} {a b c : D} {p q : Bool} (x : Ev w A H env h l a) (y : Ev w A H env h m b) (z : Ev w A H env h r c) (c1 : Cm w A H h o1 a b p) (c2 : Cm w A H h o2 b c q)
    (hm : lastMarks [o1, o2] [m, r] = false := by with_unfolding_all rfl) : Ev w A H env h (.Compare l [o1, o2] [m, r] pos) (.bool (p && q)) := fun s Q E e k =>
  Compare_chain (x s _ E e fun u h1 tk1 x1 r1 => chain_link (y _ _ E (e.trans x1) fun v h2 tk2 x2 r2 => c1 u v h2 (e.trans (x1.trans x2)) (r1.ext x2) r2 _ _ E (Ext.refl _) fun t h3 tk3 x3 e3 => by
    subst e3
    refine wpAny_truthy_bool ?_
    cases p with
    | false => rw [if_neg (by decide)]; exact k _ h3 tk3 (x1.trans (x2.trans x3)) rfl
    | true =>
      rw [if_pos rfl]
      exact chain_last (z _ _ E (e.trans (x1.trans (x2.trans x3))) fun v' h4 tk4 x4 r4 => c2 v v' h4 (e.trans (x1.trans (x2.trans (x3.trans x4)))) (r2.ext (x3.trans x4)) r4 _ _ E (Ext.refl _) fun t' h5 tk5 x5 e5 => k t' h5 tk5 (x1.trans (x2.trans (x3.trans (x4.trans x5)))) (by rw [e5]; rfl)))) hm
noncomputable def OL (W : List Addr) (h : Heap) (l : Addr) (ds : List D) : Prop := ∃ vs, h.PlainList l vs ∧ RdAll W h ds vs.toList
theorem OL.up {h' : Heap} {l : Addr} {ds : List D} (o : OL W h l ds) (x : Ext h h') : OL W h' l ds := let ⟨vs, p, r⟩ := o; ⟨vs, p.at fun o e => x _ o e, r.ext x⟩
theorem OL.to {W' : List Addr} {h' : Heap} {l : Addr} {ds : List D} (o : OL W h l ds) (t : To W h W' h') (q : ∀ o, h.get? l = some o → h'.get? l = some o) : OL W' h' l ds := let ⟨vs, p, r⟩ := o; ⟨vs, p.at fun o e => q o e, r.to t⟩
theorem OL.rd {l : Addr} {ds : List D} (o : OL W h l ds) (n : l ∉ H) (q : ∀ b ∈ H, b ∈ W) : Rd H h (.list ds) (.ref l) := let ⟨vs, p, r⟩ := o; ⟨l, vs.toList, rfl, n, by simpa using p.isList, r.to (To.less q)⟩
variable {PN : Heap → Prop} {PR : Value → Heap → Prop} {rest body : List Stmt}
theorem Ev.emptyList {pos : Pos} {s : Shared} {Q : Value → Shared → Prop} {E : Value → Shared → Prop} (k : ∀ h' tk, Ext s.heap h' → h'.PlainList s.heap.objs.size #[] → Q (.ref s.heap.objs.size) { s with heap := h', toks := tk }) : wpAny (model prg w) A (eval (.List [] pos) env) Q E s := by
  refine List_ ?_
  refine spliced_nil ?_
  exact wpAny_newObj_type (k _ _ (Ext.push _ _) ⟨_, Heap.get?_push_size _ rfl⟩) (Nat.zero_le _)
theorem Xs.append {o e : Expr} {ap pos pos2 : Pos} {l : Addr} {ds : List D} {d : D} (F : Fm h0 W env vars h) (ol : OL W h l ds) (hl : l ∈ W) (nf : l ∉ frA env) (n0 : h0.get? l = none) (he : Ev w A W env h o (.obj l)) (y : Ev w A W env h e d) (hsz : ds.length ≤ 100000)
    (k : ∀ h', Fm h0 W env vars h' → OL W h' l (ds ++ [d]) → Mv [l] h h' → Xs w A env PN PR h' rest) {pl : Sem Bool}
    (hs : eval (.Call (.Attribute o (Str.ofString "append") ap) [e] [] pos) env = (do let ov ← eval o env; standAt (Pos.atName ap); let (f, first) ← holding [ov] (getMethod ov (Str.ofString "append") pl); callWith pos f first (backTo pos (starEach [e] env)) []) := by rfl)
    (hb : backTo pos (starEach [e] env) = [(false, eval e env)] := by rfl) (hi : interactive env = false := by rfl) :
    Xs w A env PN PR h (.Expr (.Call (.Attribute o (Str.ofString "append") ap) [e] [] pos) pos2 :: rest) := by
  refine Xs.exprM (R := fun h1 => Fm h0 W env vars h1 ∧ OL W h1 l (ds ++ [d]) ∧ Mv [l] h h1) (fun s Q E e0 kq => ?_) (fun h1 ⟨a, b, c⟩ => k h1 a b c) hi rfl
  subst e0
  refine MethodCall_ (pl := pl) (he s _ E (Ext.refl _) fun u h1 tk1 x1 r1 => ?_) hs
  cases r1
  obtain ⟨vs, ⟨n, p⟩, rv⟩ := ol.up x1
  refine Calls.getMethod_list_append (s := { s with heap := h1, toks := tk1 }) p rfl rfl ?_
  rw [hb]
  refine Calls.callWith_builtin rfl ?_
  refine evalArgs_plain (spliced_cons (y _ _ E x1 fun v h2 tk2 x2 r2 => spliced_nil ?_))
  have p2 : h2.PlainList l vs := ⟨n, x2 _ _ p⟩
  have hz : vs.size ≤ sizeLine := by have := rv.length; have e : vs.toList.length = vs.size := by simp
                                     have : sizeLine = 2 ^ 24 := rfl
                                     omega
  refine wpAny_list_append_plain (s := { s with heap := h2, toks := tk2 }) p2 (fun h3 p3 hs3 => ?_) hz
  have m3 : Mv [l] h2 h3 := Mv.one hs3 (by obtain ⟨n, q⟩ := p3; rw [q]; exact fun z => nomatch z)
  have F2 := F.up (x1.trans x2)
  have qB : ∀ b ∈ [l], b ∈ W := fun b hb => by rw [List.mem_singleton.mp hb]; exact hl
  refine kq _ h3 _ ⟨F2.move m3 fun b hb => by rw [List.mem_singleton.mp hb]; exact ⟨hl, nf, n0⟩, ⟨_, p3, ?_⟩, (x1.trans x2).mv.trans m3⟩
  rw [Array.toList_push]
  exact ((rv.ext x2).to (To.mv m3 qB)).snoc (r2.to (To.mv m3 qB))
section
variable {a : BA} {st st' : BS} {c : Addr}
theorem Fn.le {k k' : Nat} {f : Addr} {ds : List D} {d : D} (x : Fn w k H h f ds d) (q : k ≤ k') : Fn w k' H h f ds d := fun A h₁ vs r e rd => x A h₁ vs (r.le q) e rd
theorem Ev.BOOL {pos : Pos} (g : Gd w mg mb h) (hg : env.globals = mainGlobals := by rfl) (hk : env.scope.kind = .function := by rfl) (hl : env.kindOf (S "BOOL") = some .globalImplicit := by rfl) : Ev w A H env h (.Name (S "BOOL") pos) (.int 0) :=
  Ev.name (Nm.global (v := .int 0 286) g (by kernel_rfl) hg hk hl) Rd.int
theorem Ev.callN {x : Str} {id : String} {np pos : Pos} {es : List Expr} {ds : List D} {d : D} (g : Gd w mg mb h) (q : nsIn (KF w.params) mainGlobals x = some none) (hb : bootBuiltins x = some (.builtin id)) (as : Es w A H env h es ds) (c : CB w A H h id ds d)
    (hn : x ≠ "__name__" := by decide) (hg : env.globals = mainGlobals := by rfl) (hbb : env.builtins = builtinsNs := by rfl) (hk : env.scope.kind = .function := by rfl) (hl : env.kindOf x = some .globalImplicit := by rfl) (hd : (x == ("__debug__" : Str)) = false := by decide)
    (hs : eval (.Call (.Name x np) es [] pos) env = (do let __do_lift ← eval (.Name x np) env; callWith pos __do_lift [] (backTo pos (starEach es env)) (backToKw pos (keywordEach [] env))) := by rfl) : Ev w A H env h (.Call (.Name x np) es [] pos) d :=
  Ev.callB ((nmB g q hb hn hg hbb hk hl hd) np) as c hs
theorem lk474 : (KF w.params).lookup 474 = some o474 := by kernel_rfl
theorem lk481 : (KF w.params).lookup 481 = some o481 := by kernel_rfl
theorem lk509 : (KF w.params).lookup 509 = some o509 := by kernel_rfl
theorem lk540 : (KF w.params).lookup 540 = some o540 := by kernel_rfl
noncomputable def BS.termB (st : BS) : D → Bool
  | .int t => decide (0 < t) && decide (t ≤ st.ts.length)
  | _ => false
theorem BS.termB_iff {st : BS} {t : Int} : st.termB (.int t) = true ↔ st.is t := by simp [BS.termB, BS.is]
noncomputable def BS.boolB (st : BS) : D → Bool
  | .int t => decide (0 < t) && decide (t ≤ st.ts.length) && decide (st.sort t = 0)
  | _ => false
theorem term_fn {d : D} (g : Gd w mg mb h) (hdm : Dm H h) (bk : Bk w H a st h) (ck : Ck h c a.b) (hd : (∃ i, d = .int i) ∨ (∃ b, d = .bool b) ∨ d = .none) : Fn w 2 H h 474 [.obj c, d] (.bool (st.termB d)) := by
  refine Fn.enter (ps := [S "self", S "t"]) g hdm lk474 (by kernel_rfl) (args2 fun _ _ => rfl) rfl (fun n => rfl) (by decide) rfl rfl rfl (fun L A' W h0 h1 r e hH hW F => ?_)
  conv => arg 7; whnf
  have e1 := e.trans F.ext
  have g1 := g.ext e1
  have b1 := bk.in_ e1 hW
  have c1 := ck.ext e1
  refine Xs.retD (d := .bool (st.termB d)) ?_ fun v h' x r => ⟨F.ext.trans x, r⟩
  refine Ev.and2 (Ev.call g1 r (Ev.fn g1 (by kernel_rfl)) (by kernel_rfl) (.cons F.var .nil rfl) ((number_fn g1 F.dm hd).le (by decide))) rfl (fun z => ?_) (fun z => ?_)
  · rcases hd with ⟨i, rfl⟩ | ⟨b, rfl⟩ | rfl
    · exact Ev.chain Ev.int F.var (Ev.meth g1 r (Ev.bank g1 F.var c1) b1.ob.ob .nil ((size_fn g1 F.dm b1).le (by decide)) rfl (by kernel_rfl)) Cm.ltI Cm.leI
    · cases z
    · cases z
  · rw [z]; rcases hd with ⟨i, rfl⟩ | ⟨b, rfl⟩ | rfl <;> first | rfl | cases z
theorem boolTerm_fn {d : D} (g : Gd w mg mb h) (hdm : Dm H h) (bk : Bk w H a st h) (ck : Ck h c a.b) (hd : (∃ i, d = .int i) ∨ (∃ b, d = .bool b) ∨ d = .none) : Fn w 3 H h 481 [.obj c, d] (.bool (st.boolB d)) := by
  refine Fn.enter (ps := [S "self", S "t"]) g hdm lk481 (by kernel_rfl) (args2 fun _ _ => rfl) rfl (fun n => rfl) (by decide) rfl rfl rfl (fun L A' W h0 h1 r e hH hW F => ?_)
  conv => arg 7; whnf
  have e1 := e.trans F.ext
  have g1 := g.ext e1
  have b1 := bk.in_ e1 hW
  have c1 := ck.ext e1
  have ob := c1.ob
  obtain ⟨n1, n2, n3, ob⟩ := ob
  refine Xs.retD (d := .bool (st.boolB d)) ?_ fun v h' x r => ⟨F.ext.trans x, r⟩
  refine Ev.and2 (Ev.meth g1 r F.var ob (.cons F.var .nil rfl) ((term_fn g1 F.dm b1 c1 hd).le (by decide)) rfl (by kernel_rfl)) rfl (fun z => ?_) (fun z => ?_)
  · rcases hd with ⟨i, rfl⟩ | ⟨b, rfl⟩ | rfl
    · have is := BS.termB_iff.mp z
      refine Ev.cast (Ev.cmp (Ev.meth g1 r (Ev.bank g1 F.var c1) b1.ob.ob (.cons F.var .nil rfl) ((sort_fn g1 F.dm b1 is).le (by decide)) rfl (by kernel_rfl)) (Ev.BOOL g1) Cm.eqI) ?_
      show _ = D.bool (decide (0 < i) && decide (i ≤ st.ts.length) && decide (st.sort i = 0))
      rw [decide_eq_true is.1, decide_eq_true is.2, Bool.true_and, Bool.true_and]
      congr 1
    · cases z
    · cases z
  · rcases hd with ⟨i, rfl⟩ | ⟨b, rfl⟩ | rfl
    · show D.bool (st.termB (.int i) && _) = _
      rw [z]; rfl
    · rfl
    · rfl
noncomputable def BS.eqK (a b : Int) : Key := (S "=", [if b < a then b else a, if b > a then b else a], 0, 0)
noncomputable def BS.eqOf (st : BS) (a b : Int) : Int := if a = b then 1 else numOf st.ts (BS.eqK a b)
theorem equality_fn {x y : Int} (g : Gd w mg mb h) (hdm : Dm H h) (bk : Bk w H a st h) (ck : Ck h c a.b) : Fn w 2 H h 509 [.obj c, .int x, .int y] (.int (st.eqOf x y)) := by
  refine Fn.enter (ps := [S "self", S "a", S "b"]) g hdm lk509 (by kernel_rfl) (args3 fun _ _ _ => rfl) rfl (fun n => rfl) (by decide) rfl rfl rfl (fun L A' W h0 h1 r e hH hW F => ?_)
  conv => arg 7; whnf
  have e1 := e.trans F.ext
  have g1 := g.ext e1
  have b1 := bk.in_ e1 hW
  have c1 := ck.ext e1
  refine Xs.iff (Et.cmp F.var F.var Cm.eqI) (fun z h2 x2 => ?_) (fun z h2 x2 => ?_)
  · have F2 := F.up x2
    have q : x = y := beq_iff_eq.mp z
    have en : st.eqOf x y = 1 := if_pos q
    rw [en]
    exact Xs.retD (Ev.meth (g1.ext x2) r (Ev.bank (g1.ext x2) F2.var (c1.ext x2)) (b1.ext x2).ob.ob .nil ((true_fn (g1.ext x2) F2.dm (b1.ext x2)).le (by decide)) rfl (by kernel_rfl)) fun v h' x r => ⟨F2.ext.trans x, r⟩
  · have F2 := F.up x2
    have q : x ≠ y := fun q => by rw [q] at z; simp at z
    have en : st.eqOf x y = numOf st.ts (BS.eqK x y) := if_neg q
    rw [en]
    have g2 := g1.ext x2
    have b2 := b1.ext x2
    exact Xs.retD (Ev.meth g2 r (Ev.bank g2 F2.var (c1.ext x2)) b2.ob.ob
      (.cons Ev.str (.cons (Ev.tup F2.dm (.cons (Ev.callN g2 (by kernel_rfl) (by kernel_rfl) (.cons F2.var (.cons F2.var .nil rfl) rfl) (CB.min r.hd)) (.cons (Ev.callN g2 (by kernel_rfl) (by kernel_rfl) (.cons F2.var (.cons F2.var .nil rfl) rfl) (CB.max r.hd)) .nil rfl) rfl))
        (.cons (Ev.BOOL g2) (.cons Ev.int .nil rfl) rfl) rfl) rfl) ((find_fn (k := BS.eqK x y) g2 F2.dm b2 (by kernel_rfl)).le (by decide)) rfl (by kernel_rfl)) fun v h' x r => ⟨F2.ext.trans x, r⟩
end
theorem Bd.at {H : List Addr} {m : Str → Option Value} {h : Heap} : ∀ {xs : List Str} {ds : List D} {x : Str} {d : D}, Bd H m h xs ds → (xs.zip ds).lookup x = some d → ∃ v, m x = some v ∧ Rd H h d v
  | [], _, _, _, _, e => by simp at e
  | _ :: _, [], _, _, b, _ => nomatch b
  | y :: xs, d' :: ds, x, d, ⟨p, q⟩, e => by
    rw [List.zip_cons_cons, List.lookup_cons] at e
    cases z : x == y with
    | true => rw [z] at e; cases e; rw [beq_iff_eq.mp z]; exact p
    | false => rw [z] at e; exact q.at e
theorem lookup_app {α : Type} {x : Str} : ∀ {l l' : List (Str × α)} {d : α}, (l ++ l').lookup x = some d → l.lookup x = some d ∨ (l.lookup x = none ∧ l'.lookup x = some d)
  | [], l', d, e => .inr ⟨rfl, e⟩
  | (y, v) :: l, l', d, e => by
    rw [List.cons_append, List.lookup_cons] at e
    rw [List.lookup_cons]
    cases z : x == y with
    | true => rw [z] at e; exact .inl e
    | false => rw [z] at e; exact lookup_app e
theorem zip_none {x : Str} : ∀ {xs : List Str} {ds : List D}, xs.length = ds.length → (xs.zip ds).lookup x = none → x ∉ xs
  | [], _, _, _, m => nomatch m
  | y :: xs, [], e, _, _ => nomatch e
  | y :: xs, d :: ds, e, q, m => by
    rw [List.zip_cons_cons, List.lookup_cons] at q
    cases z : x == y with
    | true => rw [z] at q; cases q
    | false =>
      rw [z] at q
      rcases List.mem_cons.mp m with rfl | m
      · simp at z
      · exact zip_none (by simpa using e) q m
theorem Bd.length {H : List Addr} {m : Str → Option Value} {h : Heap} : ∀ {xs : List Str} {ds : List D}, Bd H m h xs ds → xs.length = ds.length
  | [], [], _ => rfl
  | _ :: _, [], b => nomatch b
  | [], _ :: _, b => nomatch b
  | _ :: _, _ :: _, ⟨_, q⟩ => by simp [q.length]
noncomputable def blockOk (names : List (Str × NameKind)) (xs : List Str) (vars : List (Str × D)) : Bool :=
  names.all (fun p => p.2 != .local || (xs.contains p.1 || (vars.lookup p.1).isNone)) && xs.all fun x => names.lookup x == some .local
noncomputable def clOk (env : Env) : List (Str × Addr) → Prop
  | [] => True
  | p :: r => env.cells.lookup p.1 = some p.2 ∧ clOk env r
theorem clOk.at {env : Env} : ∀ {cl : List (Str × Addr)}, clOk env cl → ∀ p ∈ cl, env.cells.lookup p.1 = some p.2
  | p :: r, ⟨a, b⟩, q, hq => by
    rcases List.mem_cons.mp hq with rfl | hq
    · exact a
    · exact b.at q hq
noncomputable def nodupB : List Str → Bool
  | [] => true
  | x :: r => !r.contains x && nodupB r
theorem nodupB.of : ∀ {l : List Str}, nodupB l = true → l.Nodup
  | [], _ => List.nodup_nil
  | x :: r, e => by
    unfold nodupB at e
    obtain ⟨a, b⟩ := Bool.and_eq_true_iff.mp e
    refine List.nodup_cons.mpr ⟨fun m => ?_, nodupB.of b⟩
    simp [m] at a
theorem mem_lookup {α β : Type} [BEq α] [LawfulBEq α] {x : α} : ∀ {l : List (α × β)} {d : β}, l.lookup x = some d → (x, d) ∈ l
  | (y, v) :: l, d, e => by
    rw [List.lookup_cons] at e
    cases z : x == y with
    | true => rw [z] at e; cases e; rw [beq_iff_eq.mp z]; exact .head _
    | false => rw [z] at e; exact .tail _ (mem_lookup e)
theorem relabel_cell {scope : Scope} {env : Env} {x : Str} (e : (relabel scope env).names.lookup x = some .cell) : env.kindOf x = some .cell ∨ (x, NameKind.cell) ∈ scope.names := by
  have := mem_lookup e
  unfold relabel at this
  obtain ⟨⟨n, k⟩, hm, q⟩ := List.mem_map.mp this
  simp only at q
  split at q
  · rename_i c
    cases q
    simp only [Bool.and_eq_true, beq_iff_eq] at c
    exact .inl c.2
  · cases q; exact .inr hm
theorem Fm.turn {scope : Scope} {cl : List (Str × Addr)} {C : Addr} {H' : List Addr} {h₂ : Heap} {m₂ : Str → Option Value} {xs : List Str} {ds : List D} (F : Fm h0 W env vars h) (t : Turn h W C H' h₂ m₂) (b : Bd H' m₂ h₂ xs ds)
    (hkind : scope.kind = .function) (hcell : ∀ y ∈ scope.names, y.2 ≠ .cell) (hcl : clOk env cl) (hnd : (cl.map (·.1)).Nodup) (hbk : blockOk (relabel scope env).names xs vars = true) : Fm h0 H' (compEnvC scope cl C env) (xs.zip ds ++ vars) h₂ := by
  have cok : ∀ p ∈ cl, env.cells.lookup p.1 = some p.2 := hcl.at
  obtain ⟨b1, b2⟩ := Bool.and_eq_true_iff.mp hbk
  have bl : ∀ x ∈ xs, (relabel scope env).names.lookup x = some .local := fun x hx => beq_iff_eq.mp (List.all_eq_true.mp b2 x hx)
  have inF : ∀ p ∈ cl, p.2 ∈ frA env := fun p hp => frA_cell (cok p hp)
  have toH : To W h H' h₂ := To.more t.ext t.more
  have h0C : h0.get? C = none := Mv.gone (F.ext.mv (B := [])) t.new
  refine { fn := hkind, ext := F.ext.trans t.ext, dm := t.dm, inW := fun b hb => ?_, fresh := fun b hb => ?_, apart := ?_, off := fun n c hc => ?_, ns := ⟨m₂, t.ns, fun x d e k => ?_⟩, cell := fun x c hc => ?_ }
  · rcases List.mem_cons.mp hb with rfl | hb
    · exact t.inC
    · obtain ⟨p, hp, rfl⟩ := List.mem_map.mp hb
      exact t.sub _ (F.inW _ (inF p hp))
  · rcases List.mem_cons.mp hb with rfl | hb
    · exact h0C
    · obtain ⟨p, hp, rfl⟩ := List.mem_map.mp hb
      exact F.fresh _ (inF p hp)
  · show cl.Pairwise _
    have : cl.Pairwise fun x y => x.1 ≠ y.1 := by rw [List.nodup_iff_pairwise_ne, List.pairwise_map] at hnd; exact hnd
    refine this.imp_of_mem fun {p q} hp hq ne e => ne ?_
    exact name_of_addr F.apart (mem_of_lookup (cok p hp)) (e ▸ mem_of_lookup (cok q hq))
  · show C ≠ c
    intro z
    obtain ⟨o, ⟨oc, e, _⟩, _⟩ := F.cell n c (cok (n, c) hc)
    rw [← z, t.new] at e; cases e
  · rcases lookup_app e with e | ⟨e1, e2⟩
    · exact b.at e
    · have nx : x ∉ xs := zip_none b.length e1
      have := List.all_eq_true.mp b1 _ (mem_lookup k)
      simp only [Bool.or_eq_true, bne_iff_ne, ne_eq, not_true_eq_false, false_or, List.contains_iff_mem] at this
      rcases this with z | z
      · exact absurd z nx
      · rw [e2] at z; cases z
  · have cx := cok (x, c) (mem_of_lookup hc)
    obtain ⟨o, n, q⟩ := F.cell x c cx
    refine ⟨o, n.keeps t.ext, fun d e k => ?_⟩
    have nx : x ∉ xs := fun z => by have := bl x z; rw [show (relabel scope env).names.lookup x = some .cell from k] at this; cases this
    have ek : env.kindOf x = some .cell := (relabel_cell k).resolve_right fun z => hcell _ z rfl
    rcases lookup_app e with e | ⟨_, e⟩
    · exact absurd (List.of_mem_zip (mem_lookup e)).1 nx
    · obtain ⟨v, e1, r⟩ := q d e ek
      exact ⟨v, e1, r.to toH⟩
theorem Ev.lc {elt target iter : Expr} {ifs : List Expr} {scope : Scope} {cl : List (Str × Addr)} {pos : Pos} {ds : List D} {p : D → Bool} {f : D → D} {xs : List Str} {pt : D → List D} (F : Fm h0 W env vars h)
    (src : Src w A W env h iter ds)
    (hb : ∀ C I H' d, d ∈ ds → C ∈ H' → Binds w A H' (compEnvC scope cl C env) target I d (fun m h' => Bd H' m h' xs (pt d)))
    (htest : ∀ C H' d h₂, d ∈ ds → Ext h h₂ → (∀ b, b ∈ H' → b ∈ W ∨ h.get? b = none) → Fm h0 H' (compEnvC scope cl C env) (xs.zip (pt d) ++ vars) h₂ →
      Gv w A h₂ (forIn ifs true fun c r => if r = true then do let ok ← PySem.isTrue c (compEnvC scope cl C env) (eval c (compEnvC scope cl C env)); pure (ForInStep.yield ok) else pure (ForInStep.yield r)) (fun ok _ => ok = p d))
    (helt : ∀ C H' d h₂, d ∈ ds → p d = true → Ext h h₂ → (∀ b, b ∈ H' → b ∈ W ∨ h.get? b = none) → Fm h0 H' (compEnvC scope cl C env) (xs.zip (pt d) ++ vars) h₂ → Ev w A H' (compEnvC scope cl C env) h₂ elt (f d))
    (hsz : ds.length ≤ 100000) (hclos : closureFor scope env = pure cl := by rfl) (hkind : scope.kind = .function := by rfl) (hcell : ∀ y ∈ scope.names, y.2 ≠ .cell := by decide) (hnames : ∀ y ∈ scope.names, y.2 = .local → scope.names.lookup y.1 = some .local := by decide)
    (hcl : clOk env cl := by repeat constructor) (hnd : nodupB (cl.map (·.1)) = true := by rfl) (hbk : blockOk (relabel scope env).names xs vars = true := by rfl)
    (hs : ∀ x, foldedSetIterable iter env x = pure x := by intro _; rfl) : Ev w A W env h (.ListComp elt [⟨target, iter, ifs, 0⟩] scope pos) (.list ((ds.filter p).map f)) :=
  Ev.comp hclos hcell hkind hnames src F.dm hb (fun C H' d h₂ m₂ hd t b => htest C H' d h₂ hd t.ext t.more (F.turn t b hkind hcell hcl (nodupB.of hnd) hbk)) (fun C H' d h₂ m₂ hd hp t b => helt C H' d h₂ hd hp t.ext t.more (F.turn t b hkind hcell hcl (nodupB.of hnd) hbk)) hsz hs
theorem noTest {b : Bool} {P : Expr → Bool → Sem (ForInStep Bool)} : Gv w A h (forIn ([] : List Expr) true P) (fun ok _ => ok = true) := fun s Q E e k => by
  rw [List.forIn_nil]; exact wpAny_pure (k _ s.heap s.toks (Ext.refl _) rfl)
theorem oneTest {c : Expr} {b : Bool} {cenv : Env} (t : Et w A cenv h c b) : Gv w A h (forIn [c] true fun c r => if r = true then do let ok ← PySem.isTrue c cenv (eval c cenv); pure (ForInStep.yield ok) else pure (ForInStep.yield r)) (fun ok _ => ok = b) := fun s Q E e k => by
  rw [List.forIn_cons, if_pos rfl]
  refine wpAny_bind (wpAny_bind (t s _ E e fun v h1 tk x1 q => wpAny_pure ?_))
  show wpAny _ _ (forIn [] v _) _ _ _
  rw [List.forIn_nil]
  exact wpAny_pure (k _ h1 tk x1 q)
end
section
variable {w : World} {A : Around} {h h0 hb : Heap} {H W V : List Addr} {env : Env} {mg mb : Str → Option Value} {vars : List (Str × D)}
inductive Own where
  | list (ds : List D)
  | dict (kv : List (Int × At))
noncomputable def OwnAt (W : List Addr) (h : Heap) (l : Addr) : Own → Prop
  | .list ds => OL W h l ds
  | .dict kv => Tab h l kv ∧ (l == sysModules) = false
theorem OwnAt.to {W' : List Addr} {h' : Heap} {l : Addr} {o : Own} (x : OwnAt W h l o) (t : To W h W' h') (q : ∀ o, h.get? l = some o → h'.get? l = some o) : OwnAt W' h' l o := by
  cases o with
  | list ds => exact OL.to x t q
  | dict kv => exact ⟨Tab.at x.1 q, x.2⟩
theorem OwnAt.some {l : Addr} {o : Own} (x : OwnAt W h l o) : h.get? l ≠ none := by
  cases o with
  | list ds => obtain ⟨vs, ⟨n, e⟩, _⟩ := x; rw [e]; exact fun z => nomatch z
  | dict kv => obtain ⟨o, e⟩ := Tab.some x.1; rw [e]; exact fun z => nomatch z
structure Fx (hb : Heap) (V : List Addr) (h0 : Heap) (W : List Addr) (env : Env) (vars : List (Str × D)) (os : List (Addr × Own)) (h : Heap) : Prop where
  F : Fm h0 W env vars h
  own : ∀ p ∈ os, OwnAt W h p.1 p.2 ∧ p.1 ∈ V ∧ p.1 ∉ frA env ∧ h0.get? p.1 = none
  nd : (os.map (·.1)).Nodup
  inV : ∀ b ∈ frA env, b ∈ V
  vW : ∀ b ∈ V, b ∈ W
  mv : Mv V hb h
variable {os : List (Addr × Own)}
theorem Mv.fresh {N W : List Addr} (m : Mv (N ++ W) hb h) (q : ∀ b ∈ N, hb.get? b = none) : Mv W hb h := fun b o e => by
  obtain ⟨o', e', z⟩ := m b o e
  refine ⟨o', e', fun n => z fun y => ?_⟩
  rcases List.mem_append.mp y with y | y
  · rw [q b y] at e; cases e
  · exact n y
theorem Fx.of (F : Fm h0 W env vars h) : Fx h (frA env) h0 W env vars [] h := ⟨F, fun p hp => absurd hp List.not_mem_nil, List.nodup_nil, fun b hb => hb, F.inW, Mv.refl _ _⟩
theorem Fx.base (X : Fx hb V h0 W env vars os h) : Fx h V h0 W env vars os h := ⟨X.F, X.own, X.nd, X.inV, X.vW, Mv.refl _ _⟩
theorem Fx.up {h' : Heap} (X : Fx hb V h0 W env vars os h) (e : Ext h h') : Fx hb V h0 W env vars os h' :=
  ⟨X.F.up e, fun p hp => let ⟨a, b, c, d⟩ := X.own p hp; ⟨a.to (To.ext e) fun o q => e _ o q, b, c, d⟩, X.nd, X.inV, X.vW, X.mv.trans e.mv⟩
theorem Fx.pick {vs : List (Str × D)} (X : Fx hb V h0 W env vars os h) (p : Pick vars vs) : Fx hb V h0 W env vs os h := ⟨X.F.pick p, X.own, X.nd, X.inV, X.vW, X.mv⟩
theorem Fx.move {B : List Addr} {h' : Heap} (X : Fx hb V h0 W env vars os h) (x : Mv B h h') (q : ∀ b ∈ B, b ∈ W ∧ b ∉ V ∧ hb.get? b = none ∧ h0.get? b = none) : Fx hb V h0 W env vars os h' :=
  ⟨X.F.move x fun b hb => ⟨(q b hb).1, fun z => (q b hb).2.1 (X.inV b z), (q b hb).2.2.2⟩, fun p hp => let ⟨a, b, c, d⟩ := X.own p hp; ⟨a.to (To.mv x fun b hb => (q b hb).1) fun o z => x.off _ o (fun y => (q _ y).2.1 b) z, b, c, d⟩, X.nd, X.inV, X.vW,
    Mv.fresh (N := B) (W := V) ((X.mv.sub fun b hb => List.mem_append_right _ hb).trans (x.sub fun b hb => List.mem_append_left _ hb)) fun b hb => (q b hb).2.2.1⟩
theorem Fx.hide {N : List Addr} {h' : Heap} (X : Fx hb V h0 W env vars os h) (x : Ext h h') (n1 : ∀ b ∈ N, h.get? b = none) (n2 : ∀ b ∈ N, h'.get? b ≠ none) : Fx hb V h0 (N ++ W) env vars os h' :=
  ⟨X.F.hide x n1 n2, fun p hp => let ⟨a, b, c, d⟩ := X.own p hp; ⟨a.to (To.more x fun b hb => (List.mem_append.mp hb).elim (fun z => .inr (n1 b z)) .inl) fun o q => x _ o q, b, c, d⟩, X.nd, X.inV, fun b hb => List.mem_append_right _ (X.vW b hb), X.mv.trans x.mv⟩
theorem Fm.less {W' : List Addr} (F : Fm h0 W env vars h) (q : ∀ b ∈ W', b ∈ W) (q' : ∀ b ∈ frA env, b ∈ W') : Fm h0 W' env vars h :=
  { F with dm := fun b hb => F.dm b (q b hb), inW := q'
           ns := let ⟨m, n, p⟩ := F.ns; ⟨m, n, fun x d a b => let ⟨v, z, r⟩ := p x d a b; ⟨v, z, r.to (To.less q)⟩⟩
           cell := fun x c e => let ⟨o, n, p⟩ := F.cell x c e; ⟨o, n, fun d a b => let ⟨v, z, r⟩ := p d a b; ⟨v, z, r.to (To.less q)⟩⟩ }
theorem Fx.less {N : List Addr} {os' : List (Addr × Own)} {W' V' : List Addr} (X : Fx hb W' h0 V' env vars os h) (eW : W' = N ++ V) (eV : ∀ b ∈ W, b ∈ V') (q : ∀ b ∈ N, hb.get? b = none) (q' : ∀ b ∈ frA env, b ∈ V) (vW : ∀ b ∈ V, b ∈ W) (so : os'.Sublist os) (qo : ∀ p ∈ os', p.1 ∈ V) : Fx hb V h0 W env vars os' h := by
  subst eW
  exact ⟨X.F.less eV (fun b hb => vW b (q' b hb)), fun p hp => let ⟨a, b, c, d⟩ := X.own p (so.subset hp); ⟨a.to (To.less eV) fun o q => q, qo p hp, c, d⟩, X.nd.sublist (so.map _), q', vW, X.mv.fresh q⟩
theorem Fm.retype {x : Str} {l : Addr} {d : D} (F : Fm h0 W env vars h) (hl : vars.lookup x = some (.obj l)) (r : Rd W h d (.ref l)) : Fm h0 W env ((x, d) :: vars) h :=
  have lk : ∀ {y d'}, ((x, d) :: vars).lookup y = some d' → (y = x ∧ d' = d) ∨ vars.lookup y = some d' := fun {y d'} e => by
    rw [List.lookup_cons] at e
    cases q : y == x with
    | true => rw [q] at e; cases e; exact .inl ⟨beq_iff_eq.mp q, rfl⟩
    | false => rw [q] at e; exact .inr e
  { F with ns := let ⟨m, n, p⟩ := F.ns; ⟨m, n, fun y d' a b => (lk a).elim (fun ⟨e1, e2⟩ => by subst e1 e2; obtain ⟨v, z, r'⟩ := p y _ hl b; cases r'; exact ⟨_, z, r⟩) fun a => p y d' a b⟩
           cell := fun y c e => let ⟨o, n, p⟩ := F.cell y c e; ⟨o, n, fun d' a b => (lk a).elim (fun ⟨e1, e2⟩ => by subst e1 e2; obtain ⟨v, z, r'⟩ := p _ hl b; cases r'; exact ⟨_, z, r⟩) fun a => p d' a b⟩ }
theorem Fx.freezeL {x : Str} {l : Addr} {ds : List D} (X : Fx hb (l :: V) h0 (l :: W) env vars ((l, .list ds) :: os) h) (hl : vars.lookup x = some (.obj l)) (n : l ∉ W) (f : hb.get? l = none) (q' : ∀ b ∈ frA env, b ∈ V) (vW : ∀ b ∈ V, b ∈ W) (qo : ∀ p ∈ os, p.1 ∈ V) : Fx hb V h0 W env ((x, .list ds) :: vars) os h := by
  have Y : Fx hb V h0 W env vars os h := Fx.less (N := [l]) X rfl (fun b hb => .tail _ hb) (fun b hb => List.mem_singleton.mp hb ▸ f) q' vW (List.sublist_cons_self _ _) qo
  exact ⟨Y.F.retype hl (OL.rd (X.own _ (.head _)).1 n fun b hb => .tail _ hb), Y.own, Y.nd, Y.inV, Y.vW, Y.mv⟩
theorem Fx.freezeD {x : Str} {l : Addr} {kv : List (Int × At)} (X : Fx hb (l :: V) h0 (l :: W) env vars ((l, .dict kv) :: os) h) (hl : vars.lookup x = some (.obj l)) (n : l ∉ W) (f : hb.get? l = none) (q' : ∀ b ∈ frA env, b ∈ V) (vW : ∀ b ∈ V, b ∈ W) (qo : ∀ p ∈ os, p.1 ∈ V) : Fx hb V h0 W env ((x, .tab kv) :: vars) os h := by
  have Y : Fx hb V h0 W env vars os h := Fx.less (N := [l]) X rfl (fun b hb => .tail _ hb) (fun b hb => List.mem_singleton.mp hb ▸ f) q' vW (List.sublist_cons_self _ _) qo
  exact ⟨Y.F.retype hl ⟨l, rfl, n, (X.own _ (.head _)).1.1⟩, Y.own, Y.nd, Y.inV, Y.vW, Y.mv⟩
variable {PN : Heap → Prop} {PR : Value → Heap → Prop} {rest body : List Stmt}
theorem Fx.stored {h' : Heap} {vars' : List (Str × D)} (X : Fx hb V h0 W env vars os h) (m : Mv (frA env) h h') (F : Fm h0 W env vars' h') : Fx hb V h0 W env vars' os h' :=
  ⟨F, fun p hp => let ⟨a, b, c, d⟩ := X.own p hp; ⟨a.to (To.mv m X.F.inW) fun o z => m.off _ o c z, b, c, d⟩, X.nd, X.inV, X.vW, X.mv.trans (m.sub X.inV)⟩
theorem Xx.asg {x : Str} {px pos : Pos} {e : Expr} {d : D} (X : Fx hb V h0 W env vars os h) (m : Ev w A W env h e d) (k : ∀ h', Fx hb V h0 W env ((x, d) :: vars) os h' → Xs w A env PN PR h' rest) (kd : locOk env x = true := by rfl)
    (hs : swapsWith e (some (.Name x px)) pos.line env = pure false := by rfl) : Xs w A env PN PR h (.Assign [.Name x px] e pos :: rest) :=
  Xs.asgM (R := fun h1 => Fx hb V h0 W env vars os h1) (m.mx.imp fun v h1 p => ⟨X.F.up p.1, p.2, X.up p.1⟩) (fun h1 h' X1 mv F' => k h' (X1.stored mv F')) kd hs
theorem Xx.newList {x : Str} {px lp pos : Pos} (X : Fx hb V h0 W env vars os h) (k : ∀ l h', h.get? l = none → Fx hb (l :: V) h0 (l :: W) env ((x, .obj l) :: vars) ((l, .list []) :: os) h' → Xs w A env PN PR h' rest) (kd : locOk env x = true := by rfl) :
    Xs w A env PN PR h (.Assign [.Name x px] (.List [] lp) pos :: rest) := by
  intro s Q E he kn kr
  subst he
  refine wpAny_execs_cons (wpAny_Assign_Name (Ev.emptyList fun h1 tk1 x1 p1 => ?_) rfl)
  have n0 : s.heap.get? s.heap.objs.size = none := get_new _
  have n1 : h1.get? s.heap.objs.size ≠ none := by obtain ⟨n, q⟩ := p1; rw [q]; exact fun z => nomatch z
  have X1 : Fx hb V h0 ([s.heap.objs.size] ++ W) env vars os h1 := X.hide x1 (fun b hb => by rw [List.mem_singleton.mp hb]; exact n0) (fun b hb => by rw [List.mem_singleton.mp hb]; exact n1)
  have nf : s.heap.objs.size ∉ frA env := fun z => X.F.dm _ (X.F.inW _ z) n0
  have X2 : Fx hb (s.heap.objs.size :: V) h0 ([s.heap.objs.size] ++ W) env vars ((s.heap.objs.size, .list []) :: os) h1 :=
    ⟨X1.F, fun p hp => (List.mem_cons.mp hp).elim (fun e => by subst e; exact ⟨⟨#[], p1, rfl⟩, .head _, nf, Mv.gone (X.F.ext.mv (B := [])) n0⟩) fun hp => let ⟨a, b, c, d⟩ := X1.own p hp; ⟨a, .tail _ b, c, d⟩, List.nodup_cons.mpr ⟨fun z => by obtain ⟨p, hp, e⟩ := List.mem_map.mp z; exact (X.own p hp).1.some (e ▸ n0), X1.nd⟩, fun b hb => .tail _ (X1.inV b hb), fun b hb => (List.mem_cons.mp hb).elim (fun e => by subst e; exact .head _) fun hb => X1.vW b hb, X1.mv.sub fun b hb => .tail _ hb⟩
  refine X2.F.store (s := { s with heap := h1, toks := tk1 }) (d := .obj s.heap.objs.size) rfl kd fun h2 tk2 m2 F2 => ?_
  exact k _ h2 n0 (X2.stored m2 F2) _ Q E rfl kn kr
theorem Xx.append {o e : Expr} {ap pos pos2 : Pos} {l : Addr} {ds : List D} {d : D} (X : Fx hb V h0 W env vars ((l, .list ds) :: os) h) (he : Ev w A W env h o (.obj l)) (y : Ev w A W env h e d) (hsz : ds.length ≤ 100000)
    (k : ∀ h', Fx hb V h0 W env vars ((l, .list (ds ++ [d])) :: os) h' → Xs w A env PN PR h' rest) {pl : Sem Bool}
    (hs : eval (.Call (.Attribute o (Str.ofString "append") ap) [e] [] pos) env = (do let ov ← eval o env; standAt (Pos.atName ap); let (f, first) ← holding [ov] (getMethod ov (Str.ofString "append") pl); callWith pos f first (backTo pos (starEach [e] env)) []) := by rfl)
    (hb : backTo pos (starEach [e] env) = [(false, eval e env)] := by rfl) (hi : interactive env = false := by rfl) :
    Xs w A env PN PR h (.Expr (.Call (.Attribute o (Str.ofString "append") ap) [e] [] pos) pos2 :: rest) := by
  obtain ⟨ol, hV, nf, n0⟩ := X.own _ (.head _)
  have hl := X.vW _ hV
  refine Xs.append X.F ol hl nf n0 he y hsz (fun h' F' ol' m' => k h' ⟨F', fun p hp => ?_, X.nd, X.inV, X.vW, X.mv.trans (m'.sub fun b hb => List.mem_singleton.mp hb ▸ hV)⟩) hs hb hi
  rcases List.mem_cons.mp hp with rfl | hp
  · exact ⟨ol', hV, nf, n0⟩
  · obtain ⟨a, b, c, d⟩ := X.own p (.tail _ hp)
    have ne : p.1 ≠ l := fun z => by have := X.nd; rw [List.map_cons, List.nodup_cons] at this; exact this.1 (z ▸ List.mem_map_of_mem (f := (·.1)) hp)
    exact ⟨a.to (To.mv m' fun b hb => List.mem_singleton.mp hb ▸ hl) fun o z => m'.off _ o (fun y => ne (List.mem_singleton.mp y)) z, b, c, d⟩
theorem Xx.if1 {test : Expr} {body : List Stmt} {pos : Pos} {b : Bool} (X : Fx hb V h0 W env vars os h) (t : Et w A env h test b) (h1 : b = true → ∀ h1, Fx hb V h0 W env vars os h1 → Xs w A env PN' PR h1 body) (h2 : b = false → ∀ h1, Fx hb V h0 W env vars os h1 → PN' h1)
    (k : ∀ h', PN' h' → Xs w A env PN PR h' rest) : Xs w A env PN PR h (.If test body [] pos :: rest) := by
  refine Xs.ite (PN' := PN') t (fun g x => ?_) k
  cases b with
  | true => rw [if_pos rfl]; exact h1 rfl g (X.up x)
  | false => rw [if_neg (by decide)]; exact Xs.nil (h2 rfl g (X.up x))
theorem Ext.gone {h h' : Heap} {b : Addr} (x : Ext h h') (e : h'.get? b = none) : h.get? b = none := Mv.gone (x.mv (B := [])) e
theorem new_cons {h : Heap} {W H : List Addr} {I : Addr} (n : ∀ b, b ∈ W → b ∈ H ∨ h.get? b = none) (e : h.get? I = none) : ∀ b, b ∈ I :: W → b ∈ H ∨ h.get? b = none := fun b hb => (List.mem_cons.mp hb).elim (fun z => .inr (z ▸ e)) (n b)
theorem turn0 {h1 h3 : Heap} {vs vars' : List (Str × D)} (X : Fx h1 V h0 W env vars' os h3) (p : Pick vars' vs) : ∃ N vars', (∀ b ∈ N, h1.get? b = none) ∧ Fx h1 (N ++ V) h0 (N ++ W) env vars' os h3 ∧ Pick vars' vs := ⟨[], vars', fun b hb => absurd hb List.not_mem_nil, X, p⟩
noncomputable def Tg (w : World) (A : Around) (h0 : Heap) (env : Env) (target : Expr) (B : D → List (Str × D)) (ds : List D) : Prop :=
  ∀ (W : List Addr) (vars : List (Str × D)) (I : Addr) (v : Value) (d : D) (h1 : Heap) (K : Heap → Prop), d ∈ ds → Fm h0 W env vars h1 → Rd W h1 d v → IsItr h1 I → (∀ h2, Mv (frA env) h1 h2 → Fm h0 W env (B d ++ vars) h2 → K h2) → Bs w A env target I v h1 K
theorem Tg.name {x : Str} {px : Pos} {ds : List D} (kd : locOk env x = true := by rfl) : Tg w A h0 env (.Name x px) (fun d => [(x, d)]) ds := fun W vars I v d h1 K _ F r _ k => Bs.name F r k kd
theorem Xx.forP {target iter : Expr} (Pi : Nat → Prop) {pos : Pos} {ds : List D} {B : D → List (Str × D)} {vs : Nat → List (Str × D)} {oo : Nat → List (Addr × Own)} (X : Fx hb V h0 W env vars os h) (src : Src w A W env h iter ds) (tg : Tg w A h0 env target B ds)
    (pi0 : Pi 0) (p0 : Pick vars (vs 0)) (o0 : oo 0 = os) (oa : ∀ i, (oo i).map (·.1) = os.map (·.1))
    (turn : ∀ I i d h1, h.get? I = none → ds[i]? = some d → Pi i → Fx h1 V h0 (I :: W) env (B d ++ vs i) (oo i) h1 → Xs w A env (fun h3 => Pi (i + 1) ∧ ∃ N vars', (∀ b ∈ N, h1.get? b = none) ∧ Fx h1 (N ++ V) h0 (N ++ I :: W) env vars' (oo (i + 1)) h3 ∧ Pick vars' (vs (i + 1))) PR h1 body)
    (fin : ∀ h2, Pi ds.length → Fx hb V h0 W env (vs ds.length) (oo ds.length) h2 → Xs w A env PN PR h2 rest) (hs : ∀ x, foldedSetIterable iter env x = pure x := by intro _; rfl) : Xs w A env PN PR h (.For target iter body [] pos :: rest) := by
  have inW := X.F.inW
  have onV : ∀ {i : Nat} {p : Addr × Own}, p ∈ oo i → p.1 ∈ V := fun {i p} hp => by
    have := List.mem_map_of_mem (f := (·.1)) hp
    rw [oa i] at this
    obtain ⟨q, hq, e⟩ := List.mem_map.mp this
    exact e ▸ (X.own q hq).2.1
  refine Xs.forIn (J := fun I i h1 => Pi i ∧ Fx h V h0 (I :: W) env (vs i) (oo i) h1) src X.F.dm ?_ ?_ ?_ ?_ hs
  · intro I h1 x nI nI'
    have Y : Fx h V h0 ([I] ++ W) env vars os h1 := X.base.hide x (fun b hb => by rw [List.mem_singleton.mp hb]; exact nI) (fun b hb => by rw [List.mem_singleton.mp hb]; exact nI')
    refine ⟨pi0, ?_⟩
    show Fx h V h0 (I :: W) env (vs 0) (oo 0) h1
    rw [o0]; exact Y.pick p0
  · rintro I i h1 h2 nI ⟨pi, Y⟩ m
    have nW : I ∉ W := fun z => X.F.dm _ z nI
    exact ⟨pi, Y.move m fun b hb => by rw [List.mem_singleton.mp hb]; exact ⟨.head _, fun z => nW (X.vW _ z), nI, Mv.gone (X.F.ext.mv (B := [])) nI⟩⟩
  · rintro I i d h1 v nI hd ⟨pi, Y⟩ r it
    refine tg _ _ I v d h1 _ (List.mem_of_getElem? hd) Y.F r it fun h2 m2 F2 => ?_
    have Y2 := Y.base.stored m2 F2
    intro s Q E e kn kr
    refine turn I i d h2 nI hd pi Y2.base s Q E e (fun h3 tk3 ⟨pi', N, vars', nN, Y3, pk⟩ => ?_) kr
    have Z := (Fx.less (V := V) (W := I :: W) Y3 rfl (fun b hb => List.mem_append_right _ hb) nN X.inV (fun b hb => .tail _ (X.vW b hb)) (List.Sublist.refl _) (fun p hp => onV hp)).pick pk
    exact kn h3 tk3 ⟨⟨pi', Z.F, Z.own, Z.nd, Z.inV, Z.vW, (Y.mv.trans (m2.sub X.inV)).trans Z.mv⟩, ((m2.sub X.inV).trans Z.mv).sub X.vW⟩
  · rintro I h1 h2 nI ⟨pi, Y⟩ x
    have nW : I ∉ W := fun z => X.F.dm _ z nI
    have F2 := Y.F.drop x (Mv.gone (X.F.ext.mv (B := [])) nI) nW inW
    refine fin h2 pi ⟨F2, fun p hp => ?_, Y.nd, X.inV, X.vW, fun b o e => ?_⟩
    · obtain ⟨a, b, c, d⟩ := Y.own p hp
      have hW : p.1 ∈ W := X.vW _ b
      exact ⟨a.to (fun b o hb e => ⟨fun z => hb (.tail _ z), x b o (fun z => hb (by rw [List.mem_singleton.mp z]; exact .head _)) e⟩) fun o q => x _ o (fun z => nW (List.mem_singleton.mp z ▸ hW)) q, b, c, d⟩
    · obtain ⟨o1, e1, q1⟩ := (X.mv.trans Y.mv) b o e
      have ne : b ∉ [I] := fun z => by
        have := Mv.gone X.mv nI
        rw [← List.mem_singleton.mp z, e] at this; cases this
      exact ⟨o1, x b o1 ne e1, q1⟩
theorem Xx.forIn {target iter : Expr} {pos : Pos} {ds : List D} {B : D → List (Str × D)} {vs : Nat → List (Str × D)} {oo : Nat → List (Addr × Own)} (X : Fx hb V h0 W env vars os h) (src : Src w A W env h iter ds) (tg : Tg w A h0 env target B ds)
    (p0 : Pick vars (vs 0)) (o0 : oo 0 = os) (oa : ∀ i, (oo i).map (·.1) = os.map (·.1))
    (turn : ∀ I i d h1, h.get? I = none → ds[i]? = some d → Fx h1 V h0 (I :: W) env (B d ++ vs i) (oo i) h1 → Xs w A env (fun h3 => ∃ N vars', (∀ b ∈ N, h1.get? b = none) ∧ Fx h1 (N ++ V) h0 (N ++ I :: W) env vars' (oo (i + 1)) h3 ∧ Pick vars' (vs (i + 1))) PR h1 body)
    (fin : ∀ h2, Fx hb V h0 W env (vs ds.length) (oo ds.length) h2 → Xs w A env PN PR h2 rest) (hs : ∀ x, foldedSetIterable iter env x = pure x := by intro _; rfl) : Xs w A env PN PR h (.For target iter body [] pos :: rest) := by
  refine Xx.forP (fun _ => True) X src tg trivial p0 o0 oa (fun I i d h1 n hd _ X1 => ?_) (fun h2 _ X2 => fin h2 X2) hs
  intro s Q E e kn kr
  exact turn I i d h1 n hd X1 s Q E e (fun h3 tk p => kn h3 tk ⟨trivial, p⟩) kr
end
section
variable {w : World} {A : Around} {h h0 : Heap} {H W : List Addr} {env : Env} {mg mb : Str → Option Value} {vars : List (Str × D)}
variable {a : BA} {st st' : BS} {c : Addr}
theorem Src.rangeN {ne : Expr} {np pos : Pos} {n : Nat} (g : Gd w mg mb h) (hh : A.handled = none) (x : Ev w A H env h ne (.int n)) (hz : n < 2 ^ 61) (q : nsIn (KF w.params) mainGlobals (S "range") = some none) (hb : bootBuiltins (S "range") = some (.type "range")) (hst : starEach [ne] env = (false, eval ne env) :: starEach [] env := by rfl)
    (hg : env.globals = mainGlobals := by rfl) (hbb : env.builtins = builtinsNs := by rfl) (hk : env.scope.kind = .function := by rfl) (hl : env.kindOf (S "range") = some .globalImplicit := by rfl)
    (hs : eval (.Call (.Name (S "range") np) [ne] [] pos) env = (do let __do_lift ← eval (.Name (S "range") np) env; callWith pos __do_lift [] (backTo pos (starEach [ne] env)) (backToKw pos (keywordEach [] env))) := by rfl) : Src w A H env h (.Call (.Name (S "range") np) [ne] [] pos) ((List.range n).map fun i => D.int (i : Nat)) :=
  Src.range hh ((nmT g q hb (by decide) hg hbb hk hl (by decide)) np) x hz hst hs
theorem range_get {n i : Nat} {d : D} (e : ((List.range n).map fun i => D.int (i : Nat))[i]? = some d) : i < n ∧ d = .int i := by
  rw [List.getElem?_map] at e
  cases q : (List.range n)[i]? with
  | none => rw [q] at e; cases e
  | some j =>
    rw [q] at e; cases e
    obtain ⟨hlt, e⟩ := List.getElem?_eq_some_iff.mp q
    simp at hlt e
    exact ⟨hlt, by rw [e]⟩
noncomputable def DL (ls : List (List Int)) : D := .list (ls.map fun l => .list (l.map .int))
noncomputable def BS.row (st : BS) (some : List Int) (j n : Nat) : List Int := (List.range n).map fun i => st.eqOf some[i]! some[j]!
noncomputable def BS.pairs (st : BS) (some : List Int) (n : Nat) : List Int := (List.range n).flatMap fun j => st.row some j j
theorem BS.row_succ {st : BS} {some : List Int} {j n : Nat} : st.row some j (n + 1) = st.row some j n ++ [st.eqOf some[n]! some[j]!] := by simp [BS.row, List.range_succ]
theorem BS.pairs_succ {st : BS} {some : List Int} {n : Nat} : st.pairs some (n + 1) = st.pairs some n ++ st.row some n n := by simp [BS.pairs, List.range_succ]
theorem BS.pairs_len {st : BS} {some : List Int} : ∀ {n : Nat}, (st.pairs some n).length ≤ n * n
  | 0 => Nat.zero_le _
  | n + 1 => by
    rw [BS.pairs_succ, List.length_append]
    have := BS.pairs_len (st := st) (some := some) (n := n)
    have e : (st.row some n n).length = n := by simp [BS.row]
    have : (n + 1) * (n + 1) = n * n + n + n + 1 := by rw [Nat.add_mul, Nat.mul_add]; omega
    omega
noncomputable def BS.distinctDef (st : BS) (t : Int) (some : List Int) : List (List Int) :=
  let ps := st.pairs some some.length
  if 0 ∈ ps then (ps.filter (· != 0)).map (fun e => [-t, -e]) else ps.map (fun e => [-t, -e]) ++ [t :: ps]
theorem get_int {l : List Int} {i : Nat} (h : i < l.length) : (l.map D.int)[i]? = some (.int l[i]!) := by
  rw [List.getElem?_map, List.getElem?_eq_getElem h, getElem!_pos l i h]; rfl
theorem seqIdx {i n : Nat} (h : i < n) : seqIndex? (i : Int) n = some i := by
  unfold seqIndex?
  simp only [Int.natCast_nonneg, Int.not_lt.mpr, if_false] <;> simp <;> omega
theorem Cm.inInts {x : Int} {l : List Int} : Cm w A H h .In (.int x) (.list (l.map .int)) (decide (x ∈ l)) := by
  have := Cm.inL (w := w) (A := A) (H := H) (h := h) (x := .int x) (l := l.map At.int) (fun a ha => by obtain ⟨i, _, rfl⟩ := List.mem_map.mp ha; rfl)
  have e1 : (l.map At.int).map At.d = l.map D.int := by simp [At.d]
  have e2 : decide (At.int x ∈ l.map At.int) = decide (x ∈ l) := by rw [Bool.eq_iff_iff]; simp
  rw [e1, e2] at this
  exact this
section
open Classical
noncomputable def liftP {β : Type} (ι : β → D) (p : β → Bool) (d : D) : Bool := if h : ∃ b, ι b = d then p h.choose else false
noncomputable def liftF {β : Type} (ι : β → D) (g : β → D) (d : D) : D := if h : ∃ b, ι b = d then g h.choose else d
noncomputable def liftL {β γ : Type} (ι : β → D) (g : β → List γ) (d : D) : List γ := if h : ∃ b, ι b = d then g h.choose else []
end
theorem liftP_at {β : Type} {ι : β → D} (inj : ∀ a b, ι a = ι b → a = b) {p : β → Bool} {b : β} : liftP ι p (ι b) = p b := by
  unfold liftP
  have h : ∃ b', ι b' = ι b := ⟨b, rfl⟩
  rw [dif_pos h, inj _ _ h.choose_spec]
theorem liftF_at {β : Type} {ι : β → D} (inj : ∀ a b, ι a = ι b → a = b) {p : β → D} {b : β} : liftF ι p (ι b) = p b := by
  unfold liftF
  have h : ∃ b', ι b' = ι b := ⟨b, rfl⟩
  rw [dif_pos h, inj _ _ h.choose_spec]
theorem liftL_at {β γ : Type} {ι : β → D} (inj : ∀ a b, ι a = ι b → a = b) {p : β → List γ} {b : β} : liftL ι p (ι b) = p b := by
  unfold liftL
  have h : ∃ b', ι b' = ι b := ⟨b, rfl⟩
  rw [dif_pos h, inj _ _ h.choose_spec]
theorem lift_list {β : Type} {ι : β → D} (inj : ∀ a b, ι a = ι b → a = b) {p : β → Bool} {g : β → D} {l : List β} : ((l.map ι).filter (liftP ι p)).map (liftF ι g) = (l.filter p).map g := by
  induction l with
  | nil => rfl
  | cons b l ih =>
    rw [List.map_cons, List.filter_cons, List.filter_cons, liftP_at inj]
    cases p b with
    | true => simp only [if_true, List.map_cons, liftF_at inj, ih]
    | false => simpa using ih
theorem Ev.lcG {β : Type} {ι : β → D} (inj : ∀ a b, ι a = ι b → a = b) {elt target iter : Expr} {ifs : List Expr} {scope : Scope} {cl : List (Str × Addr)} {pos : Pos} {l : List β} {p : β → Bool} {g : β → D} {xs : List Str} {pt : β → List D} (F : Fm h0 W env vars h)
    (src : Src w A W env h iter (l.map ι))
    (hb : ∀ C I H' b, b ∈ l → C ∈ H' → Binds w A H' (compEnvC scope cl C env) target I (ι b) (fun m h' => Bd H' m h' xs (pt b)))
    (htest : ∀ C H' b h₂, b ∈ l → Ext h h₂ → (∀ b, b ∈ H' → b ∈ W ∨ h.get? b = none) → Fm h0 H' (compEnvC scope cl C env) (xs.zip (pt b) ++ vars) h₂ →
      Gv w A h₂ (forIn ifs true fun c r => if r = true then do let ok ← PySem.isTrue c (compEnvC scope cl C env) (eval c (compEnvC scope cl C env)); pure (ForInStep.yield ok) else pure (ForInStep.yield r)) (fun ok _ => ok = p b))
    (helt : ∀ C H' b h₂, b ∈ l → p b = true → Ext h h₂ → (∀ b, b ∈ H' → b ∈ W ∨ h.get? b = none) → Fm h0 H' (compEnvC scope cl C env) (xs.zip (pt b) ++ vars) h₂ → Ev w A H' (compEnvC scope cl C env) h₂ elt (g b))
    (hsz : l.length ≤ 100000) (hclos : closureFor scope env = pure cl := by rfl) (hkind : scope.kind = .function := by rfl) (hcell : ∀ y ∈ scope.names, y.2 ≠ .cell := by decide) (hnames : ∀ y ∈ scope.names, y.2 = .local → scope.names.lookup y.1 = some .local := by decide)
    (hcl : clOk env cl := by repeat constructor) (hnd : nodupB (cl.map (·.1)) = true := by rfl) (hbk : blockOk (relabel scope env).names xs vars = true := by rfl)
    (hs : ∀ x, foldedSetIterable iter env x = pure x := by intro _; rfl) : Ev w A W env h (.ListComp elt [⟨target, iter, ifs, 0⟩] scope pos) (.list ((l.filter p).map g)) := by
  rw [← lift_list inj (p := p) (g := g) (l := l)]
  refine Ev.lc (p := liftP ι p) (f := liftF ι g) (pt := liftL ι pt) (xs := xs) F src (fun C I H' d hd hC => ?_) (fun C H' d h₂ hd x mo F' => ?_) (fun C H' d h₂ hd hp x mo F' => ?_) (by simpa using hsz) hclos hkind hcell hnames hcl hnd hbk hs
  · obtain ⟨b, hb', rfl⟩ := List.mem_map.mp hd
    rw [liftL_at inj]; exact hb C I H' b hb' hC
  · obtain ⟨b, hb', rfl⟩ := List.mem_map.mp hd
    rw [liftL_at inj] at F'; rw [liftP_at inj]; exact htest C H' b h₂ hb' x mo F'
  · obtain ⟨b, hb', rfl⟩ := List.mem_map.mp hd
    rw [liftL_at inj] at F'; rw [liftF_at inj]; rw [liftP_at inj] at hp; exact helt C H' b h₂ hb' hp x mo F'
theorem inj_int : ∀ a b, D.int a = D.int b → a = b := fun a b e => by cases e; rfl
theorem Ev.tupAt {v i : Expr} {pos : Pos} {l : List Int} {k : Nat} (x : Ev w A H env h v (.tup (l.map .int))) (y : Ev w A H env h i (.int k)) (hk : k < l.length) (hz : l.length ≤ 1000)
    (hs : ∀ a t, subscripted i false (.ref a) (.int k t) = operate [.ref a, .int k t] (getItem (.ref a) (.int k t)) := by intro _ _; rfl) : Ev w A H env h (.Subscript v i pos) (.int l[k]!) :=
  Ev.itemT x y (seqIdx (by rw [List.length_map]; exact hk)) (get_int hk) (by omega) (by omega) hs
theorem distinct_fn {t : Int} {some : List Int} (g : Gd w mg mb h) (hdm : Dm H h) (bk : Bk w H a st h) (ck : Ck h c a.b) (hz : some.length ≤ 60) : Fn w 3 H h 540 [.obj c, .int t, .tup (some.map .int)] (DL (st.distinctDef t some)) := by
  refine Fn.enter (ps := [S "self", S "t", S "some"]) g hdm lk540 (by kernel_rfl) (args3 fun _ _ _ => rfl) rfl (fun n => rfl) (by decide) rfl rfl rfl (fun L A' W h0 h1 r e hH hW F => ?_)
  conv => arg 7; whnf
  refine Xs.hideR fun PN PR kr => ?_
  refine Xx.newList (Fx.of F) fun l h2 ln X2 => ?_
  have g2 := g.ext (e.trans X2.F.ext)
  have ob := ck.ob
  obtain ⟨n1, n2, n3, ob⟩ := ob
  have hlen : (some.map D.int).length = some.length := by simp
  refine Xx.forIn (B := fun d => [(S "j", d)]) (vs := fun j => [(S "pairs", .obj l), (S "some", .tup (some.map .int)), (S "t", .int t), (S "self", .obj c)]) (oo := fun j => [(l, .list ((st.pairs some j).map .int))]) X2
    (Src.rangeN g2 r.hd (Ev.callN g2 (by kernel_rfl) (by kernel_rfl) (.cons X2.F.var .nil rfl) (CB.lenT (by rw [hlen]; omega))) (by rw [hlen]; omega) (by kernel_rfl) (by kernel_rfl)) Tg.name ⟨rfl, rfl, rfl, rfl, trivial⟩ rfl (fun i => rfl) ?_ ?_
  · intro I j d h3 nI hd X3
    refine Xs.hideN fun PN kn => ?_
    obtain ⟨hj, rfl⟩ := range_get hd
    rw [hlen] at hj
    have g3 := g.ext (e.trans X3.F.ext)
    refine Xx.forIn (B := fun d => [(S "i", d)]) (vs := fun i => [(S "j", .int j), (S "pairs", .obj l), (S "some", .tup (some.map .int)), (S "t", .int t), (S "self", .obj c)]) (oo := fun i => [(l, .list ((st.pairs some j ++ st.row some j i).map .int))]) X3
      (Src.rangeN g3 r.hd X3.F.var (by omega) (by kernel_rfl) (by kernel_rfl)) Tg.name ⟨rfl, rfl, rfl, rfl, rfl, trivial⟩ (by simp [BS.row]) (fun i => rfl) ?_ ?_
    · intro I2 i d2 h4 nI2 hd2 X4
      refine Xs.hideN fun PN kn => ?_
      obtain ⟨hi, rfl⟩ := range_get hd2
      have e4 := e.trans X4.F.ext
      have g4 := g.ext e4
      have b4 : Bk w (I2 :: I :: l :: W) a st h4 := bk.in_ e4 (new_cons (new_cons (new_cons hW ((e.trans F.ext).gone ln)) ((e.trans X2.F.ext).gone nI)) ((e.trans X3.F.ext).gone nI2))
      refine Xx.append X4 X4.F.var (Ev.meth g4 r X4.F.var (ob.ext e4) (.cons (Ev.tupAt X4.F.var X4.F.var (by omega) (by omega)) (.cons (Ev.tupAt X4.F.var X4.F.var (by omega) (by omega)) .nil rfl) rfl) (equality_fn g4 X4.F.dm b4 (ck.ext e4)) rfl (by kernel_rfl)) ?_ fun h5 X5 => ?_
      · simp [BS.row]
        have := BS.pairs_len (st := st) (some := some) (n := j)
        have : j * j ≤ 60 * 60 := Nat.mul_le_mul (by omega) (by omega)
        omega
      · have q : (st.pairs some j ++ st.row some j (i + 1)).map D.int = (st.pairs some j ++ st.row some j i).map D.int ++ [.int (st.eqOf some[i]! some[j]!)] := by rw [BS.row_succ]; simp
        refine Xs.nil (kn _ ?_)
        show ∃ N vars', _ ∧ Fx _ _ _ _ _ _ [(l, .list ((st.pairs some j ++ st.row some j (i + 1)).map D.int))] _ ∧ _
        rw [q]
        exact turn0 X5 ⟨rfl, rfl, rfl, rfl, rfl, trivial⟩
    · intro h4 X4
      refine Xs.nil (kn _ ?_)
      show ∃ N vars', _ ∧ Fx _ _ _ _ _ _ [(l, .list ((st.pairs some (j + 1)).map D.int))] _ ∧ _
      rw [BS.pairs_succ]
      simp only [List.length_map, List.length_range] at X4
      exact turn0 X4 ⟨rfl, rfl, rfl, rfl, trivial⟩
  · intro h3 X3
    have lW : l ∉ W := fun z => F.dm _ z ln
    have X4 := Fx.freezeL (x := S "pairs") X3 rfl lW ln (fun b hb => hb) F.inW (fun p hp => absurd hp List.not_mem_nil)
    simp only [List.length_map, List.length_range] at X4
    have e4 := e.trans X4.F.ext
    have pl : (st.pairs some some.length).length ≤ 3600 := Nat.le_trans BS.pairs_len (by have := Nat.mul_le_mul hz hz; omega)
    refine Xs.iff (Et.cmp Ev.int X4.F.var Cm.inInts) (fun z h5 x5 => ?_) (fun z h5 x5 => ?_)
    · have F5 := X4.F.up x5
      refine Xs.retD (d := .list (((st.pairs some some.length).filter (· != 0)).map fun e => .list [.int (-t), .int (-e)])) (Ev.lcG (xs := [S "e"]) (pt := fun b => [D.int b]) inj_int F5 (Src.list r.hd F5.var) (fun C I H' b hb hC => Binds.name rfl rfl hC) (fun C H' b h₂ hb x mo F' => ?_) (fun C H' b h₂ hb hp x mo F' => ?_) (by omega)) fun v h' x r => kr ?_ (F5.ext.trans x) r
      · exact oneTest (Et.cmp F'.var Ev.int Cm.neI)
      · exact Ev.list F'.dm (.cons (Ev.neg F'.var) (.cons (Ev.neg F'.var) .nil rfl) rfl)
      · have : DL (st.distinctDef t some) = .list (((st.pairs some some.length).filter (· != 0)).map fun e => .list [.int (-t), .int (-e)]) := by
          unfold BS.distinctDef DL
          simp only [if_pos (of_decide_eq_true z), List.map_map]
          rfl
        exact this
    · have F5 := X4.F.up x5
      have hf := List.length_filter_le (fun _ : Int => true) (st.pairs some some.length)
      refine Xs.retD (d := DL (st.distinctDef t some)) (Ev.cast (Ev.bin (Ev.lcG (p := fun _ => true) (g := fun e => .list [.int (-t), .int (-e)]) (xs := [S "e"]) (pt := fun b => [D.int b]) inj_int F5 (Src.list r.hd F5.var) (fun C I H' b hb hC => Binds.name rfl rfl hC) (fun C H' b h₂ hb x mo F' => noTest (b := true)) (fun C H' b h₂ hb hp x mo F' => ?_) (by omega)) (Ev.list F5.dm (.cons (Ev.bin (Ev.list F5.dm (.cons F5.var .nil rfl)) F5.var (Bin.cat F5.dm ?_)) .nil rfl)) (Bin.cat F5.dm ?_)) ?_) fun v h' x r => kr rfl (F5.ext.trans x) r
      · exact Ev.list F'.dm (.cons (Ev.neg F'.var) (.cons (Ev.neg F'.var) .nil rfl) rfl)
      · rw [List.length_map]; simp only [List.length_cons, List.length_nil]; omega
      · rw [List.length_map]; simp only [List.length_cons, List.length_nil]; omega
      · unfold BS.distinctDef DL
        rw [if_neg (of_decide_eq_false z)]
        have ft : (st.pairs some some.length).filter (fun _ => true) = st.pairs some some.length := List.filter_eq_self.mpr fun _ _ => rfl
        rw [ft]; simp
end
section
variable {w : World} {A : Around} {h h0 hb : Heap} {H W V : List Addr} {env : Env} {mg mb : Str → Option Value} {vars : List (Str × D)} {os : List (Addr × Own)}
variable {PN : Heap → Prop} {PR : Value → Heap → Prop} {rest body : List Stmt}
theorem ext_of_but {s : Heap} {h' : Heap} (x : Heap.ExtBut s.objs.size s h') : Ext s h' := fun b o e => x b o (ne_of_get e) e
theorem Fx.assigns : ∀ (xs : List (Str × Pos)) (ds : List D) (vs : List Value) (vars : List (Str × D)) (s : Shared) (Q : Unit → Shared → Prop) (E : Value → Shared → Prop), xs.length = ds.length → RdAll W s.heap ds vs → (∀ x ∈ xs, locOk env x.1 = true) → Fx hb V h0 W env vars os s.heap →
    (∀ h' tk, Fx hb V h0 W env (((xs.map (·.1)).zip ds).reverse ++ vars) os h' → Q () { s with heap := h', toks := tk }) → wpAny (model prg w) A (assignInOrder (xs.map fun x => assign (.Name x.1 x.2) env) vs) Q E s
  | [], [], vs, vars, s, Q, E, _, r, _, X, k => by cases r; exact assignInOrder_nil (k s.heap s.toks X)
  | [], _ :: _, vs, vars, s, Q, E, e, _, _, _, _ => by cases e
  | _ :: _, [], vs, vars, s, Q, E, e, _, _, _, _ => by cases e
  | x :: xs, d :: ds, vs, vars, s, Q, E, e, r, lo, X, k => by
    obtain ⟨v, vs', rfl, r1, r2⟩ := r
    refine assignInOrder_cons (wpAny_assign_Name (X.F.store r1 (lo x (.head _)) fun h1 tk1 m1 F1 => ?_))
    refine Fx.assigns xs ds vs' ((x.1, d) :: vars) _ Q E (by simpa using e) (r2.to (To.mv m1 X.F.inW)) (fun y hy => lo y (.tail _ hy)) (X.stored m1 F1) fun h2 tk2 X2 => k h2 tk2 ?_
    simpa using X2
theorem Fx.swaps : ∀ (xs : List Str) (ds : List D) (vs : List Value) (vars : List (Str × D)) (s : Shared) (Q : Unit → Shared → Prop) (E : Value → Shared → Prop), xs.length = ds.length → RdAll W s.heap ds vs → (∀ x ∈ xs, locOk env x = true) → Fx hb V h0 W env vars os s.heap →
    (∀ h' tk, Fx hb V h0 W env ((xs.zip ds).reverse ++ vars) os h' → Q () { s with heap := h', toks := tk }) → wpAny (model prg w) A (assignInOrder (xs.map fun n => bindName env n) vs) Q E s
  | [], [], vs, vars, s, Q, E, _, r, _, X, k => by cases r; exact assignInOrder_nil (k s.heap s.toks X)
  | [], _ :: _, vs, vars, s, Q, E, e, _, _, _, _ => by cases e
  | _ :: _, [], vs, vars, s, Q, E, e, _, _, _, _ => by cases e
  | x :: xs, d :: ds, vs, vars, s, Q, E, e, r, lo, X, k => by
    obtain ⟨v, vs', rfl, r1, r2⟩ := r
    refine assignInOrder_cons (wpAny_bindName (X.F.store r1 (lo x (.head _)) fun h1 tk1 m1 F1 => ?_))
    refine Fx.swaps xs ds vs' ((x, d) :: vars) _ Q E (by simpa using e) (r2.to (To.mv m1 X.F.inW)) (fun y hy => lo y (.tail _ hy)) (X.stored m1 F1) fun h2 tk2 X2 => k h2 tk2 ?_
    simpa using X2
theorem RdAll.rev {h : Heap} : ∀ {ds : List D} {vs : List Value}, RdAll H h ds vs → RdAll H h ds.reverse vs.reverse
  | [], _, r => by cases r; rfl
  | d :: ds, _, ⟨v, vs, e, a, b⟩ => by subst e; rw [List.reverse_cons, List.reverse_cons]; exact b.rev.snoc a
theorem Xx.swap {n : Nat} {tp pos : Pos} {ts : List Expr} {xs : List Str} {ds : List D} {e : Expr} (X : Fx hb V h0 W env vars os h) (hh : A.handled = none) (m : Ev w A W env h e (.tup ds)) (hl : xs.length = ds.length)
    (k : ∀ h', Fx hb V h0 W env ((xs.reverse.zip ds.reverse).reverse ++ vars) os h' → Xs w A env PN PR h' rest) (hw : swappedStores [.Tuple ts n tp] e env = pure (some xs) := by rfl) (lo : ∀ x ∈ xs, locOk env x = true := by decide)
    (hs : swapsWithSole [.Tuple ts n tp] e pos.line env = pure false := by rfl) : Xs w A env PN PR h (.Assign [.Tuple ts n tp] e pos :: rest) := fun s Q E he kn kr => by
  subst he
  refine wpAny_execs_cons (Assign_Tuple_swapped (m s _ E (Ext.refl _) fun v h1 tk1 x1 ⟨t, vs, e1, n1, ht, r⟩ => ?_) hs hw)
  subst e1
  have el : xs.length = vs.toArray.size := by rw [hl, List.size_toArray, r.length]
  rw [el]
  refine unpackItems_tuple (s := { s with heap := h1, toks := tk1 }) hh ht fun h2 x2 => ?_
  have x2 := ext_of_but x2
  refine Fx.swaps xs.reverse ds.reverse _ vars _ _ E (by simpa using hl) ((r.ext x2).rev) (fun x hx => lo x (by simpa using hx)) (X.up (x1.trans x2)) fun h3 tk3 X3 => ?_
  exact k h3 X3 _ Q E rfl kn kr
theorem Xx.unpackL {n : Nat} {tp pos : Pos} {ts : List Expr} {xs : List (Str × Pos)} {ds : List D} {e : Expr} (X : Fx hb V h0 W env vars os h) (hh : A.handled = none) (m : Ev w A W env h e (.list ds)) (hl : xs.length = ds.length)
    (hts : ts = xs.map fun x => .Name x.1 x.2) (k : ∀ h', Fx hb V h0 W env (((xs.map (·.1)).zip ds).reverse ++ vars) os h' → Xs w A env PN PR h' rest) (lo : ∀ x ∈ xs, locOk env x.1 = true)
    (hea : assignEach ts env = xs.map fun x => (false, assign (.Name x.1 x.2) env)) (hw : swappedStores [.Tuple ts n tp] e env = pure none := by rfl)
    (hs : swapsWithSole [.Tuple ts n tp] e pos.line env = pure false := by rfl) : Xs w A env PN PR h (.Assign [.Tuple ts n tp] e pos :: rest) := fun s Q E he kn kr => by
  subst he
  refine wpAny_execs_cons (Assign_Tuple (m s _ E (Ext.refl _) fun v h1 tk1 x1 ⟨t, vs, e1, n1, ht, r⟩ => ?_) hs hw)
  subst e1
  rw [assign_Tuple]
  refine wpAny_bind (wpAny_standAt ?_)
  unfold unpack
  have el : (assignEach ts env).length = vs.toArray.size := by rw [hea, List.length_map, hl, List.size_toArray, r.length]
  have en : (assignEach ts env).findIdx? (·.1) = none := by rw [hea]; simp [List.findIdx?_eq_none_iff]
  rw [el, en]
  refine wpAny_bind (wpAny_holding (kun_itemsOf (s := { s with heap := h1, toks := tk1 }) hh ht fun h2 x2 => ?_))
  have x2 := ext_of_but x2
  rw [hea, List.map_map]
  refine Fx.assigns xs ds vs vars _ _ E hl (r.ext x2) lo (X.up (x1.trans x2)) fun h3 tk3 X3 => ?_
  exact k h3 X3 _ Q E rfl kn kr
theorem Fx.drop {I : Addr} {h1 h2 : Heap} (Y : Fx hb V h0 (I :: W) env vars os h1) (x : ExtO [I] h1 h2) (f : h0.get? I = none) (f' : hb.get? I = none) (nW : I ∉ W) (vW : ∀ b ∈ V, b ∈ W) : Fx hb V h0 W env vars os h2 := by
  refine ⟨Y.F.drop x f nW fun b hb => vW b (Y.inV b hb), fun p hp => ?_, Y.nd, Y.inV, vW, fun b o e => ?_⟩
  · obtain ⟨a, b, c, d⟩ := Y.own p hp
    have hW : p.1 ∈ W := vW _ b
    exact ⟨a.to (fun b o hb e => ⟨fun z => hb (.tail _ z), x b o (fun z => hb (by rw [List.mem_singleton.mp z]; exact .head _)) e⟩) fun o q => x _ o (fun z => nW (List.mem_singleton.mp z ▸ hW)) q, b, c, d⟩
  · obtain ⟨o1, e1, q1⟩ := Y.mv b o e
    have ne : b ∉ [I] := fun z => by rw [← List.mem_singleton.mp z, e] at f'; cases f'
    exact ⟨o1, x b o1 ne e1, q1⟩
theorem Xx.asgC {y : Str} {py spos : Pos} {elt target iter : Expr} {ifs : List Expr} {scope : Scope} {cl : List (Str × Addr)} {pos : Pos} {ds : List D} {p : D → Bool} {f : D → D} {xs : List Str} {pt : D → List D} (X : Fx hb V h0 W env vars os h)
    (src : Src w A W env h iter ds)
    (hbd : ∀ C I H' d, d ∈ ds → C ∈ H' → Binds w A H' (compEnvC scope cl C env) target I d (fun m h' => Bd H' m h' xs (pt d)))
    (htest : ∀ C H' d h₂, d ∈ ds → Ext h h₂ → (∀ b, b ∈ H' → b ∈ W ∨ h.get? b = none) → Fm h0 H' (compEnvC scope cl C env) (xs.zip (pt d) ++ vars) h₂ →
      Gv w A h₂ (ForIn.forIn ifs true fun c r => if r = true then do let ok ← PySem.isTrue c (compEnvC scope cl C env) (eval c (compEnvC scope cl C env)); pure (ForInStep.yield ok) else pure (ForInStep.yield r)) (fun ok _ => ok = p d))
    (helt : ∀ C H' d h₂, d ∈ ds → p d = true → Ext h h₂ → (∀ b, b ∈ H' → b ∈ W ∨ h.get? b = none) → Fm h0 H' (compEnvC scope cl C env) (xs.zip (pt d) ++ vars) h₂ → Ev w A H' (compEnvC scope cl C env) h₂ elt (f d))
    (hsz : ds.length ≤ 100000) (k : ∀ h', Fx hb V h0 W env ((y, .list ((ds.filter p).map f)) :: vars) os h' → Xs w A env PN PR h' rest)
    (hsw : swapsWith (.ListComp elt [⟨target, iter, ifs, 0⟩] scope pos) (some (.Name y py)) spos.line env = pure true := by rfl) (kd : locOk env y = true := by rfl)
    (hclos : closureFor scope env = pure cl := by rfl) (hkind : scope.kind = .function := by rfl) (hcell : ∀ y ∈ scope.names, y.2 ≠ .cell := by decide) (hnames : ∀ y ∈ scope.names, y.2 = .local → scope.names.lookup y.1 = some .local := by decide)
    (hcl : clOk env cl := by repeat constructor) (hnd : nodupB (cl.map (·.1)) = true := by rfl) (hbk : blockOk (relabel scope env).names xs vars = true := by rfl)
    (hs : ∀ x, foldedSetIterable iter env x = pure x := by intro _; rfl) : Xs w A env PN PR h (.Assign [.Name y py] (.ListComp elt [⟨target, iter, ifs, 0⟩] scope pos) spos :: rest) := fun s Q E he kn kr => by
  subst he
  refine wpAny_execs_cons ?_
  rw [exec_Assign_Name_used _ _ _ _ hsw]
  refine wpAny_bind (wpAny_standAt (wpAny_bind ?_))
  show wpAny _ A (do let _ ← comprehension (.ListComp elt [⟨target, iter, ifs, 0⟩] scope pos) scope env _ (PySem.newList []) false (eval iter env) (some (assign (.Name y py) env))) _ _ s
  refine wpAny_bind (wpAny_mono (wpAny_comprehension_free (use := some (assign (.Name y py) env)) (Q := fun _ s' => ∃ h' tk, s' = { s with heap := h', toks := tk } ∧ Fx hb V h0 W env ((y, .list ((ds.filter p).map f)) :: vars) os h') rfl hs hclos hkind hnames
    (src s _ E (Ext.refl _) fun I fp P St h1 tk1 x1 it hIs => ?_)) (fun _ s' hq => wpAny_pure (wpAny_pure ?_)) fun _ _ e => e)
  · refine comp_core (RR := fun acc C => compPost (model prg w) A E (some (assign (.Name y py) env)) (fun _ s' => ∃ h' tk, s' = { s with heap := h', toks := tk } ∧ Fx hb V h0 W env ((y, .list ((ds.filter p).map f)) :: vars) os h') acc C) hclos hcell hkind hnames X.F.dm (Ext.refl _) x1 it hIs hbd
      (fun C H' d h₂ m₂ hd t b => htest C H' d h₂ hd t.ext t.more (X.F.turn t b hkind hcell hcl (nodupB.of hnd) hbk)) (fun C H' d h₂ m₂ hd hp t b => helt C H' d h₂ hd hp t.ext t.more (X.F.turn t b hkind hcell hcl (nodupB.of hnd) hbk)) hsz fun Dx C h' tk m' ys hDC hDn hCn x2 n2 a2 r2 => ?_
    have xe : Ext s.heap h' := fun b o q => x2 b o (fun z => by rw [z, hIs] at q; cases q) (x1 b o q)
    have sC : s.heap.get? C = none := x1.gone hCn
    have sD : s.heap.get? Dx = none := x1.gone hDn
    have CW : C ∉ W := fun z => X.F.dm _ z sC
    have DW : Dx ∉ W := fun z => X.F.dm _ z sD
    have X1 : Fx hb V h0 ([C] ++ W) env vars os h' := X.hide xe (fun b hb => by rw [List.mem_singleton.mp hb]; exact sC) (fun b hb => by rw [List.mem_singleton.mp hb]; exact Ns.some n2)
    have rv : Rd ([C] ++ W) h' (.list ((ds.filter p).map f)) (.ref Dx) := ⟨Dx, ys.toList, rfl, fun z => (List.mem_cons.mp z).elim hDC DW, by simpa using a2.isList, r2.to (To.less fun b hb => (List.mem_cons.mp hb).elim (fun z => z ▸ .head _) fun z => .tail _ (.tail _ (.tail _ z)))⟩
    show wpAny _ A (assign (.Name y py) env (.ref Dx)) _ _ _
    refine wpAny_assign_Name (X1.F.store (s := { s with heap := h', toks := tk }) rv kd fun h2 tk2 m2 F2 => ?_)
    have X2 := X1.stored m2 F2
    have Cf : C ∉ frA env := fun z => CW (X.F.inW _ z)
    refine ⟨m', n2.at' fun o e => m2.off _ o Cf e, fun h3 hs3 => ⟨h3, tk2, rfl, ?_⟩⟩
    exact Fx.drop (W := W) X2 (fun b o n e => hs3.extBut b o (fun z => n (List.mem_singleton.mpr z)) e) (X.F.ext.gone sC) (Mv.gone X.mv sC) CW X.vW
  · obtain ⟨h', tk, rfl, X3⟩ := hq
    exact k h' X3 _ Q E rfl kn kr
noncomputable def tset (kv : List (Int × At)) (k : Int) (a : At) : List (Int × At) := if kv.any (fun x => x.1 = k) then kv.map (fun x => if x.1 = k then (x.1, a) else x) else kv ++ [(k, a)]
noncomputable def tget (kv : List (Int × At)) (k : Int) : Option At := (kv.find? fun x => x.1 = k).map (·.2)
theorem TabVals.any {k : Int} : ∀ {kv : List (Int × At)} {kvs : List (Int × Value)}, TabVals kv kvs → (kvs.any fun x => x.1 = k) = kv.any fun x => x.1 = k
  | [], [], _ => rfl
  | [], _ :: _, t => nomatch t
  | _ :: _, [], t => nomatch t
  | p :: r, q :: s, ⟨a, b, c⟩ => by rw [List.any_cons, List.any_cons, c.any, a]
theorem TabVals.map {k : Int} {a : At} {v : Value} (hv : a.v v) : ∀ {kv : List (Int × At)} {kvs : List (Int × Value)}, TabVals kv kvs → TabVals (kv.map fun x => if x.1 = k then (x.1, a) else x) (kvs.map fun x => if x.1 = k then (x.1, v) else x)
  | [], [], _ => trivial
  | [], _ :: _, t => nomatch t
  | _ :: _, [], t => nomatch t
  | p :: r, q :: s, ⟨e, b, c⟩ => by
    by_cases z : p.1 = k
    · have z' : q.1 = k := e ▸ z
      refine ⟨?_, ?_, TabVals.map hv c⟩
      · show (if p.1 = k then (p.1, a) else p).1 = (if q.1 = k then (q.1, v) else q).1
        rw [if_pos z, if_pos z']; exact e
      · show (if p.1 = k then (p.1, a) else p).2.v (if q.1 = k then (q.1, v) else q).2
        rw [if_pos z, if_pos z']; exact hv
    · have z' : ¬ q.1 = k := e ▸ z
      refine ⟨?_, ?_, TabVals.map hv c⟩
      · show (if p.1 = k then (p.1, a) else p).1 = (if q.1 = k then (q.1, v) else q).1
        rw [if_neg z, if_neg z']; exact e
      · show (if p.1 = k then (p.1, a) else p).2.v (if q.1 = k then (q.1, v) else q).2
        rw [if_neg z, if_neg z']; exact b
theorem TabVals.snoc {k : Int} {a : At} {v : Value} (hv : a.v v) : ∀ {kv : List (Int × At)} {kvs : List (Int × Value)}, TabVals kv kvs → TabVals (kv ++ [(k, a)]) (kvs ++ [(k, v)])
  | [], [], _ => ⟨rfl, hv, trivial⟩
  | [], _ :: _, t => nomatch t
  | _ :: _, [], t => nomatch t
  | p :: r, q :: s, ⟨e, b, c⟩ => ⟨e, b, TabVals.snoc hv c⟩
theorem TabVals.set {k : Int} {a : At} {v : Value} {kv : List (Int × At)} {kvs : List (Int × Value)} (hv : a.v v) (t : TabVals kv kvs) : TabVals (tset kv k a) (stored kvs k v) := by
  unfold tset stored
  rw [t.any]
  split
  · exact TabVals.map hv t
  · exact TabVals.snoc hv t
theorem TabVals.length : ∀ {kv : List (Int × At)} {kvs : List (Int × Value)}, TabVals kv kvs → kvs.length = kv.length
  | [], [], _ => rfl
  | [], _ :: _, t => nomatch t
  | _ :: _, [], t => nomatch t
  | p :: r, q :: s, ⟨e, b, c⟩ => by simp [c.length]
theorem TabVals.get {k : Int} : ∀ {kv : List (Int × At)} {kvs : List (Int × Value)}, TabVals kv kvs → (tget kv k = none ∧ valueAt kvs k = none) ∨ ∃ a v, tget kv k = some a ∧ valueAt kvs k = some v ∧ a.v v
  | [], [], _ => .inl ⟨rfl, rfl⟩
  | [], _ :: _, t => nomatch t
  | _ :: _, [], t => nomatch t
  | p :: r, q :: s, ⟨e, b, c⟩ => by
    by_cases z : p.1 = k
    · refine .inr ⟨p.2, q.2, ?_, ?_, b⟩
      · simp [tget, z]
      · simp [valueAt, ← e, z]
    · have e1 : tget (p :: r) k = tget r k := by simp [tget, List.find?_cons, z]
      have e2 : valueAt (q :: s) k = valueAt s k := by simp [valueAt, List.find?_cons, ← e, z]
      rw [e1, e2]; exact c.get
theorem pairs_on {w w' : World} {es : List DictEntry} {kvs : List (Int × Value)} (p : Pairs (intKind prg w') es kvs) : Pairs (intKind prg w) es kvs := by
  induction p with
  | nil => exact .nil
  | cons a b _ ih => exact .cons a b ih
theorem Tab.on {l : Addr} {kv : List (Int × At)} (t : Tab h l kv) (w : World) : ∃ kvs, h.DictOf (intKind prg w) l kvs ∧ TabVals kv kvs := let ⟨_, w', kvs, ⟨o, es, ep, a, b, c, d, e, f⟩, v⟩ := t; ⟨kvs, ⟨o, es, ep, a, b, c, d, pairs_on e, f⟩, v⟩
theorem isInt_of {k : Int} {t : Nat} : (intKind prg w).is k (.int k t) = true := by show Value.isInt k (.int k t) = true; simp [Value.isInt]
theorem Cm.inD {l : Addr} {kv : List (Int × At)} {k : Int} (t : Tab h l kv) (sys : (l == sysModules) = false) : Cm w A H h .In (.int k) (.obj l) (kv.any fun x => x.1 = k) := fun u v h₁ e0 ⟨t', e1⟩ e2 s Q E e kq => by
  cases e2
  subst e1
  obtain ⟨kvs, d, tv⟩ := (t.at (h' := s.heap) fun o q => e _ _ (e0 _ _ q)).on w
  refine wpAny_in_of (isInt_of (w := w)) sys d.mapOf ?_
  have : (valueAt kvs k).isSome = kv.any fun x => x.1 = k := by
    rw [← tv.any]
    unfold valueAt
    rw [Option.isSome_map, List.isSome_find?]
  rw [this]
  exact kq _ s.heap _ (Ext.refl _) rfl
theorem Ev.dictGet {v i : Expr} {pos : Pos} {l : Addr} {kv : List (Int × At)} {k : Int} {a : At} (x : Ev w A H env h v (.obj l)) (t : Tab h l kv) (y : Ev w A H env h i (.int k)) (q : tget kv k = some a)
    (hs : ∀ a t, subscripted i false (.ref a) (.int k t) = operate [.ref a, .int k t] (getItem (.ref a) (.int k t)) := by intro _ _; rfl) : Ev w A H env h (.Subscript v i pos) a.d := fun s Q E e k' =>
  Subscript_ (x s _ E e fun u h1 tk1 x1 r1 => y _ _ E (e.trans x1) fun u2 h2 tk2 x2 ⟨t', e2⟩ => by
    cases r1
    subst e2
    obtain ⟨kvs, d, tv⟩ := (t.at (h' := h2) fun o q => x2 _ _ (x1 _ _ (e _ _ q))).on w
    rcases tv.get (k := k) with ⟨z, _⟩ | ⟨a', v', z, z', hv⟩
    · rw [z] at q; cases q
    · rw [z] at q; cases q
      exact tail_any (s := { s with heap := h2, toks := tk2 }) d.typeIs slot_dict_getitem.lookup (wpAny_getItem_of (isInt_of (w := w)) d.mapOf z' (k' v' h2 _ (x1.trans x2) (At.rd.mpr hv))) (hs l t'))
theorem Ev.tabGet {v i : Expr} {pos : Pos} {kv : List (Int × At)} {k : Int} {a : At} (x : Ev w A H env h v (.tab kv)) (y : Ev w A H env h i (.int k)) (q : tget kv k = some a)
    (hs : ∀ a t, subscripted i false (.ref a) (.int k t) = operate [.ref a, .int k t] (getItem (.ref a) (.int k t)) := by intro _ _; rfl) : Ev w A H env h (.Subscript v i pos) a.d := fun s Q E e k' =>
  Subscript_ (x s _ E e fun u h1 tk1 x1 ⟨l, e1, n, t⟩ => y _ _ E (e.trans x1) fun u2 h2 tk2 x2 ⟨t', e2⟩ => by
    subst e1
    subst e2
    obtain ⟨kvs, d, tv⟩ := (t.at (h' := h2) fun o q => x2 _ _ q).on w
    rcases tv.get (k := k) with ⟨z, _⟩ | ⟨a', v', z, z', hv⟩
    · rw [z] at q; cases q
    · rw [z] at q; cases q
      exact tail_any (s := { s with heap := h2, toks := tk2 }) d.typeIs slot_dict_getitem.lookup (wpAny_getItem_of (isInt_of (w := w)) d.mapOf z' (k' v' h2 _ (x1.trans x2) (At.rd.mpr hv))) (hs l t'))
theorem Xx.setItem {o i value : Expr} {tp pos : Pos} {l : Addr} {kv : List (Int × At)} {k : Int} {a : At} (X : Fx hb V h0 W env vars ((l, .dict kv) :: os) h) (hv : Ev w A W env h value a.d) (ho : Ev w A W env h o (.obj l)) (hi : Ev w A W env h i (.int k)) (hsz : kv.length ≤ 100000)
    (kk : ∀ h', Fx hb V h0 W env vars ((l, .dict (tset kv k a)) :: os) h' → Xs w A env PN PR h' rest) (hs : swapsWith value (some (.Subscript o i tp)) pos.line env = pure false := by rfl) :
    Xs w A env PN PR h (.Assign [.Subscript o i tp] value pos :: rest) := fun s Q E he kn kr => by
  subst he
  refine wpAny_execs_cons (wpAny_Assign_Subscript (hv s _ E (Ext.refl _) fun v h1 tk1 x1 r1 => ho _ _ E x1 fun ov h2 tk2 x2 r2 => hi _ _ E (x1.trans x2) fun iv h3 tk3 x3 ⟨t, e3⟩ => ?_) hs)
  cases r2
  subst e3
  have X3 := X.up (x1.trans (x2.trans x3))
  obtain ⟨⟨tb, sys⟩, hV, nf, n0⟩ := X3.own _ (.head _)
  have hl := X3.vW _ hV
  obtain ⟨kvs, d, tv⟩ := tb.on w
  have av : a.v v := At.rd.mp (r1.ext (x2.trans x3))
  have hz : kvs.length ≤ sizeLine := by rw [tv.length]; exact Nat.le_trans hsz (by decide)
  refine wpAny_setItem_pairs (s := { s with heap := h3, toks := tk3 }) (isInt_of (w := w)) d (fun h4 d4 hs4 => ?_) hz
  have tb4 : Tab h4 l (tset kv k a) := ⟨sys, w, _, d4, tv.set av⟩
  have m4 : Mv [l] h3 h4 := Mv.one hs4 (by obtain ⟨o, e⟩ := tb4.some; rw [e]; exact fun z => nomatch z)
  refine kk h4 ⟨X3.F.move m4 fun b hb => by rw [List.mem_singleton.mp hb]; exact ⟨hl, nf, n0⟩, fun p hp => ?_, X3.nd, X3.inV, X3.vW, X3.mv.trans (m4.sub fun b hb => List.mem_singleton.mp hb ▸ hV)⟩ _ Q E rfl kn kr
  rcases List.mem_cons.mp hp with rfl | hp
  · exact ⟨⟨tb4, sys⟩, hV, nf, n0⟩
  · obtain ⟨a, b, c, d⟩ := X3.own p (.tail _ hp)
    have ne : p.1 ≠ l := fun z => by have := X3.nd; rw [List.map_cons, List.nodup_cons] at this; exact this.1 (z ▸ List.mem_map_of_mem (f := (·.1)) hp)
    exact ⟨a.to (To.mv m4 fun b hb => List.mem_singleton.mp hb ▸ hl) fun o z => m4.off _ o (fun y => ne (List.mem_singleton.mp y)) z, b, c, d⟩
theorem Fx.perm {os' : List (Addr × Own)} (X : Fx hb V h0 W env vars os h) (p : os'.Perm os) : Fx hb V h0 W env vars os' h := ⟨X.F, fun q hq => X.own q (p.subset hq), (p.map _).nodup_iff.mpr X.nd, X.inV, X.vW, X.mv⟩
theorem sys_new {h : Heap} {a : Addr} (g : Gd w mg mb h) (e : h.get? a = none) (e' : h.objs.size ≤ a) : (a == sysModules) = false := by
  have hk : (KF w.params).lookup 76 = some o76 := lk76
  have q : (76 : Nat) < h.objs.size := Heap.lt_size (g.X _ _ hk)
  rw [beq_eq_false_iff_ne]
  show a ≠ 1
  intro z
  rw [z] at e'
  exact absurd (Nat.lt_of_lt_of_le q e') (by decide)
theorem Xx.newPair {x1 x2 : Str} {ts : List Expr} {n n' : Nat} {tp lp dp vp pos : Pos} (g : Gd w mg mb h) (X : Fx hb V h0 W env vars os h) (hh : A.handled = none)
    (k : ∀ l d h', h.get? l = none → h.get? d = none → l ≠ d → Fx hb (l :: d :: V) h0 (l :: d :: W) env ((x1, .obj l) :: (x2, .obj d) :: vars) ((l, .list []) :: (d, .dict []) :: os) h' → Xs w A env PN PR h' rest)
    (k1 : locOk env x1 = true := by rfl) (k2 : locOk env x2 = true := by rfl)
    (hw : swappedStores [.Tuple ts n tp] (.Tuple [.List [] lp, .Dict [] [] dp] n' vp) env = pure (some [x1, x2]) := by rfl)
    (hst : backTo vp (starEach [.List [] lp, .Dict [] [] dp] env) = [(false, eval (.List [] lp) env), (false, eval (.Dict [] [] dp) env)] := by rfl)
    (hs : swapsWithSole [.Tuple ts n tp] (.Tuple [.List [] lp, .Dict [] [] dp] n' vp) pos.line env = pure false := by rfl) :
    Xs w A env PN PR h (.Assign [.Tuple ts n tp] (.Tuple [.List [] lp, .Dict [] [] dp] n' vp) pos :: rest) := fun s Q E he kn kr => by
  subst he
  refine wpAny_execs_cons (Assign_Tuple_swapped (Tuple_ ?_) hs hw)
  rw [hst]
  refine spliced_cons (Ev.emptyList fun h1 tk1 x1' p1 => spliced_cons (wpAny_Dict_empty (spliced_nil ?_)))
  generalize hl : s.heap.objs.size = l at p1
  generalize hd : h1.objs.size = d
  generalize hH2 : h1.push { cls := .type "dict", data := .dict #[] } = h2
  have ln : s.heap.get? l = none := hl ▸ get_new _
  have dn1 : h1.get? d = none := hd ▸ get_new _
  have e12 : Ext h1 h2 := hH2 ▸ Ext.push _ _
  have dn : s.heap.get? d = none := x1'.gone dn1
  have ne : l ≠ d := fun z => by obtain ⟨n, q⟩ := p1; rw [z, dn1] at q; cases q
  have dd : h2.DictOf (intKind prg w) d [] := by rw [← hd, ← hH2]; exact Heap.DictOf.new _
  have sys : (d == sysModules) = false := sys_new (g.ext x1') dn1 (by rw [← hd]; exact Nat.le_refl _)
  have p2 : h2.PlainList l #[] := p1.at fun o e => e12 _ _ e
  refine wpAny_newObj_type (s := { s with heap := h2, toks := _ }) ?_ (show 2 ≤ sizeLine by decide)
  refine unpackItems_tuple (items := #[.ref l, .ref d]) hh ⟨_, Heap.get?_push_size _ rfl, rfl, _, rfl⟩ fun h4 x4 => ?_
  have x24 : Ext h2 h4 := (Ext.push _ _).trans (ext_of_but x4)
  have xe : Ext s.heap h4 := x1'.trans (e12.trans x24)
  have n2 : ∀ b ∈ [l, d], h4.get? b ≠ none := fun b hb => by
    rcases List.mem_cons.mp hb with rfl | hb
    · obtain ⟨n, q⟩ := p2; rw [x24 _ _ q]; exact fun z => nomatch z
    · rw [List.mem_singleton.mp hb]; obtain ⟨o, es, ep, q, _⟩ := dd; rw [x24 _ _ q]; exact fun z => nomatch z
  have n1 : ∀ b ∈ [l, d], s.heap.get? b = none := fun b hb => by
    rcases List.mem_cons.mp hb with rfl | hb
    · exact ln
    · rw [List.mem_singleton.mp hb]; exact dn
  have X1 := X.hide xe n1 n2
  have nf : ∀ b ∈ [l, d], b ∉ frA env := fun b hb z => X.F.dm _ (X.F.inW _ z) (n1 b hb)
  have no : ∀ b ∈ [l, d], b ∉ os.map (·.1) := fun b hb z => by obtain ⟨p, hp, e⟩ := List.mem_map.mp z; exact (X.own p hp).1.some (e ▸ n1 b hb)
  have X2 : Fx hb (l :: d :: V) h0 ([l, d] ++ W) env vars ((l, .list []) :: (d, .dict []) :: os) h4 := by
    refine ⟨X1.F, fun p hp => ?_, ?_, fun b hb => .tail _ (.tail _ (X1.inV b hb)), fun b hb => ?_, X1.mv.sub fun b hb => .tail _ (.tail _ hb)⟩
    · rcases List.mem_cons.mp hp with rfl | hp
      · exact ⟨⟨#[], p2.at fun o e => x24 _ _ e, rfl⟩, .head _, nf _ (.head _), X.F.ext.gone ln⟩
      · rcases List.mem_cons.mp hp with rfl | hp
        · exact ⟨⟨⟨sys, w, [], by obtain ⟨o, es, ep, q, r⟩ := dd; exact ⟨o, es, ep, x24 _ _ q, r⟩, trivial⟩, sys⟩, .tail _ (.head _), nf _ (.tail _ (.head _)), X.F.ext.gone dn⟩
        · obtain ⟨a, b, c, d⟩ := X1.own p hp; exact ⟨a, .tail _ (.tail _ b), c, d⟩
    · simp only [List.map_cons, List.nodup_cons, List.mem_cons, not_or]
      exact ⟨⟨ne, no _ (.head _)⟩, no _ (.tail _ (.head _)), X1.nd⟩
    · rcases List.mem_cons.mp hb with rfl | hb
      · exact .head _
      · rcases List.mem_cons.mp hb with rfl | hb
        · exact .tail _ (.head _)
        · exact X1.vW b hb
  refine Fx.swaps [x2, x1] [.obj d, .obj l] _ vars _ _ E rfl ⟨_, _, rfl, rfl, _, _, rfl, rfl, rfl⟩ (fun x hx => ?_) X2 fun h5 tk5 X5 => ?_
  · rcases List.mem_cons.mp hx with rfl | hx
    · exact k2
    · rw [List.mem_singleton.mp hx]; exact k1
  · exact k l d h5 ln dn ne X5 _ Q E rfl kn kr
end
section
variable {w : World} {A : Around} {h h0 hb : Heap} {H W V : List Addr} {env : Env} {mg mb : Str → Option Value} {vars : List (Str × D)} {os : List (Addr × Own)}
variable {a : BA} {st st' : BS} {c : Addr}
noncomputable def wdGo : List Int → List Int → Option (List Int)
  | [], f => some f
  | x :: r, f => if -x ∈ f then none else if x ∈ f then wdGo r f else wdGo r (f ++ [x])
noncomputable def wd (l : List Int) : Option (List Int) := wdGo l []
noncomputable def wdF (l : List Int) : List Int := l.foldl (fun f x => if x ∈ f then f else f ++ [x]) []
theorem wdF_succ {l : List Int} {i : Nat} (h : i < l.length) : wdF (l.take (i + 1)) = if l[i] ∈ wdF (l.take i) then wdF (l.take i) else wdF (l.take i) ++ [l[i]] := by
  unfold wdF
  rw [List.take_succ_eq_append_getElem h, List.foldl_append]
  rfl
theorem wdF_len {l : List Int} : ∀ {n : Nat}, (wdF (l.take n)).length ≤ n
  | 0 => by simp [wdF]
  | n + 1 => by
    by_cases h : n < l.length
    · rw [wdF_succ h]
      have := wdF_len (l := l) (n := n)
      split
      · omega
      · simp; omega
    · have := wdF_len (l := l) (n := n)
      rw [List.take_of_length_le (by omega)] at this ⊢
      omega
noncomputable def optD : Option (List Int) → D
  | none => .none
  | some l => .list (l.map .int)
noncomputable def seenOf (f : List Int) : List (Int × At) := f.map fun x => (x, At.bool true)
theorem seen_any {f : List Int} {k : Int} : ((seenOf f).any fun x => x.1 = k) = decide (k ∈ f) := by
  unfold seenOf
  rw [List.any_map, Bool.eq_iff_iff, List.any_eq_true, decide_eq_true_iff]
  constructor
  · rintro ⟨x, hx, e⟩; simp at e; exact e ▸ hx
  · intro hk; exact ⟨k, hk, by simp⟩
theorem seen_set {f : List Int} {k : Int} (n : k ∉ f) : tset (seenOf f) k (.bool true) = seenOf (f ++ [k]) := by
  unfold tset
  rw [seen_any, decide_eq_false n]
  simp [seenOf]
theorem lk90 : (KF w.params).lookup 90 = some o90 := by kernel_rfl
theorem lk535 : (KF w.params).lookup 535 = some o535 := by kernel_rfl
theorem lk530 : (KF w.params).lookup 530 = some o530 := by kernel_rfl
theorem at_i {l : List Int} {i : Nat} {d : D} (e : (l.map D.int)[i]? = some d) : ∃ h : i < l.length, d = .int l[i] := by
  rw [List.getElem?_map] at e
  cases q : l[i]? with
  | none => rw [q] at e; cases e
  | some x =>
    rw [q] at e; cases e
    obtain ⟨h, e⟩ := List.getElem?_eq_some_iff.mp q
    exact ⟨h, by rw [e]⟩
theorem Cm.notInD {l : Addr} {kv : List (Int × At)} {k : Int} (t : Tab h l kv) (sys : (l == sysModules) = false) : Cm w A H h .NotIn (.int k) (.obj l) (!kv.any fun x => x.1 = k) := fun u v h₁ e0 ⟨t', e1⟩ e2 s Q E e kq => by
  cases e2
  subst e1
  obtain ⟨kvs, d, tv⟩ := (t.at (h' := s.heap) fun o q => e _ _ (e0 _ _ q)).on w
  refine wpAny_notIn_of (isInt_of (w := w)) sys d.mapOf ?_
  have : (valueAt kvs k).isSome = kv.any fun x => x.1 = k := by
    rw [← tv.any]
    unfold valueAt
    rw [Option.isSome_map, List.isSome_find?]
  rw [this]
  exact kq _ s.heap _ (Ext.refl _) rfl
theorem doubles_fn {l : List Int} (g : Gd w mg mb h) (hdm : Dm H h) (hz : l.length ≤ 1000) : Fn w 1 H h 90 [.list (l.map .int)] (optD (wd l)) := by
  refine Fn.enter (ps := [S "some"]) g hdm lk90 (by kernel_rfl) (args1 fun _ => rfl) rfl (fun n => rfl) (by decide) rfl rfl rfl (fun L A' W h0 h1 r e hH hW F => ?_)
  conv => arg 7; whnf
  refine Xs.hideR fun PN PR kr => ?_
  refine Xx.newPair (x1 := S "found") (x2 := S "seen") (g.ext (e.trans F.ext)) (Fx.of F) r.hd fun lf ds h2 fn dn ne X2 => ?_
  have lW : lf ∉ ds :: W := fun z => (List.mem_cons.mp z).elim ne fun z => F.dm _ z fn
  refine Xx.forP (fun i => wd l = wdGo (l.drop i) (wdF (l.take i))) (B := fun d => [(S "one", d)]) (vs := fun i => [(S "found", .obj lf), (S "seen", .obj ds), (S "some", .list (l.map .int))]) (oo := fun i => [(lf, .list ((wdF (l.take i)).map .int)), (ds, .dict (seenOf (wdF (l.take i))))]) X2
    (Src.list r.hd X2.F.var) Tg.name rfl ⟨rfl, rfl, rfl, trivial⟩ rfl (fun i => rfl) ?_ ?_
  · intro I i d h3 nI hd pi X3
    refine Xs.hideN fun PN kn => ?_
    obtain ⟨hi, rfl⟩ := at_i hd
    have ow := (X3.own _ (.tail _ (.head _))).1
    have ed : l.drop i = l[i] :: l.drop (i + 1) := List.drop_eq_getElem_cons hi
    rw [ed] at pi
    have lenF := wdF_len (l := l) (n := i)
    refine Xs.iff (Et.cmp (Ev.neg X3.F.var) X3.F.var (Cm.inD ow.1 ow.2)) (fun z h4 x4 => ?_) (fun z h4 x4 => ?_)
    · rw [seen_any] at z
      have : wd l = none := by rw [pi]; unfold wdGo; rw [if_pos (of_decide_eq_true z)]
      exact Xs.retD Ev.cnone fun v h' x r => kr (congrArg optD this) ((X3.F.up x4).ext.trans x) r
    · rw [seen_any] at z
      have nm := of_decide_eq_false z
      have X4 := X3.up x4
      have ow4 := (X4.own _ (.tail _ (.head _))).1
      refine Xx.if1 (PN' := fun h5 => Fx h3 (lf :: ds :: frA (envOfC (S "without_doubles") (dScope (top 7)) L 90 (.ref 89))) h0 (I :: lf :: ds :: W) (envOfC (S "without_doubles") (dScope (top 7)) L 90 (.ref 89)) [(S "one", .int l[i]), (S "found", .obj lf), (S "seen", .obj ds), (S "some", .list (l.map .int))] [(lf, .list ((wdF (l.take (i + 1))).map .int)), (ds, .dict (seenOf (wdF (l.take (i + 1)))))] h5) X4
        (Et.cmp X4.F.var X4.F.var (Cm.notInD ow4.1 ow4.2)) (fun z h5 X5 => ?_) (fun z h5 X5 => ?_) (fun h5 X5 => ?_)
      · rw [seen_any] at z
        have nm2 : l[i] ∉ wdF (l.take i) := by simpa using z
        refine Xx.setItem (a := .bool true) (X5.perm (List.Perm.swap _ _ _)) Ev.cbool X5.F.var X5.F.var (by simp [seenOf]; omega) fun h6 X6 => ?_
        refine Xx.append (X6.perm (List.Perm.swap _ _ _)) X6.F.var X6.F.var (by simp; omega) fun h7 X7 => ?_
        refine Xs.nil ?_
        rw [wdF_succ hi, if_neg nm2, ← seen_set nm2, List.map_append]
        exact X7
      · rw [seen_any] at z
        have nm2 : l[i] ∈ wdF (l.take i) := by simpa using z
        rw [wdF_succ hi, if_pos nm2]
        exact X5
      · refine Xs.nil (kn _ ⟨?_, turn0 X5 ⟨rfl, rfl, rfl, trivial⟩⟩)
        rw [pi]
        conv => lhs; unfold wdGo
        rw [if_neg nm, wdF_succ hi]
        split <;> rfl
  · intro h3 pi X3
    simp only [List.length_map, List.drop_length, List.take_length] at pi X3
    have : wd l = some (wdF l) := pi
    have ol := (X3.own _ (.head _)).1
    refine Xs.retD (d := .obj lf) X3.F.var fun v h' x r => ?_
    cases r
    exact kr (congrArg optD this) (X3.F.ext.trans x) (OL.rd (OL.up ol x) (fun z => lW (.tail _ z)) fun b hb => .tail _ (.tail _ hb))
noncomputable def linesOf (op : Str) (t : Int) (ends : List Int) : List (List Int) :=
  if op = S "and" then ends.map (fun p => [-t, p]) ++ [t :: ends.map (fun p => -p)] else
  if op = S "or" then ends.map (fun p => [t, -p]) ++ [-t :: ends] else
  if op = S "ite" then (match ends with
    | [c, a, b] => [[-t, -c, a], [-t, c, b], [t, -c, -a], [t, c, -b]]
    | _ => []) else
  match ends with
  | [p, q] =>
    if op = S "xor" then [[-t, p, q], [-t, -p, -q], [t, -p, q], [t, p, -q]] else
    if op = S "=" then [[-t, -p, q], [-t, p, -q], [t, p, q], [t, -p, -q]] else
    [[-t, -p, q], [t, p], [t, -q]]
  | _ => []
noncomputable def BS.defn (st : BS) (t : Int) : List (List Int) :=
  if st.op t = S "true" then [[t]] else
  if st.op t = S "false" then [[-t]] else
  if st.op t = S "distinct" then st.distinctDef t (st.args t) else
  if st.sort ((st.args t).getLast?.getD 0) ≠ 0 then [] else linesOf (st.op t) t ((st.args t).map st.signed)
structure BS.Sh (st : BS) (t : Int) : Prop where
  is : st.is t
  len : (st.args t).length ≤ 60
  part : ∀ x ∈ st.args t, st.is x
  some : st.op t ≠ S "true" → st.op t ≠ S "false" → st.op t ≠ S "distinct" → st.args t ≠ []
  three : st.op t = S "ite" → (st.args t).length = 3
  two : st.op t ≠ S "true" → st.op t ≠ S "false" → st.op t ≠ S "distinct" → st.op t ≠ S "and" → st.op t ≠ S "or" → st.op t ≠ S "ite" → (st.args t).length = 2
theorem Xx.asgG {PN : Heap → Prop} {PR : Value → Heap → Prop} {rest : List Stmt} {β : Type} {ι : β → D} (inj : ∀ a b, ι a = ι b → a = b) {y : Str} {py spos : Pos} {elt target iter : Expr} {ifs : List Expr} {scope : Scope} {cl : List (Str × Addr)} {pos : Pos} {l : List β} {p : β → Bool} {f : β → D} {xs : List Str} {pt : β → List D} (X : Fx hb V h0 W env vars os h)
    (src : Src w A W env h iter (l.map ι))
    (hbd : ∀ C I H' b, b ∈ l → C ∈ H' → Binds w A H' (compEnvC scope cl C env) target I (ι b) (fun m h' => Bd H' m h' xs (pt b)))
    (htest : ∀ C H' b h₂, b ∈ l → Ext h h₂ → (∀ b, b ∈ H' → b ∈ W ∨ h.get? b = none) → Fm h0 H' (compEnvC scope cl C env) (xs.zip (pt b) ++ vars) h₂ →
      Gv w A h₂ (ForIn.forIn ifs true fun c r => if r = true then do let ok ← PySem.isTrue c (compEnvC scope cl C env) (eval c (compEnvC scope cl C env)); pure (ForInStep.yield ok) else pure (ForInStep.yield r)) (fun ok _ => ok = p b))
    (helt : ∀ C H' b h₂, b ∈ l → p b = true → Ext h h₂ → (∀ b, b ∈ H' → b ∈ W ∨ h.get? b = none) → Fm h0 H' (compEnvC scope cl C env) (xs.zip (pt b) ++ vars) h₂ → Ev w A H' (compEnvC scope cl C env) h₂ elt (f b))
    (hsz : l.length ≤ 100000) (k : ∀ h', Fx hb V h0 W env ((y, .list ((l.filter p).map f)) :: vars) os h' → Xs w A env PN PR h' rest)
    (hsw : swapsWith (.ListComp elt [⟨target, iter, ifs, 0⟩] scope pos) (some (.Name y py)) spos.line env = pure true := by rfl) (kd : locOk env y = true := by rfl)
    (hclos : closureFor scope env = pure cl := by rfl) (hkind : scope.kind = .function := by rfl) (hcell : ∀ y ∈ scope.names, y.2 ≠ .cell := by decide) (hnames : ∀ y ∈ scope.names, y.2 = .local → scope.names.lookup y.1 = some .local := by decide)
    (hcl : clOk env cl := by repeat constructor) (hnd : nodupB (cl.map (·.1)) = true := by rfl) (hbk : blockOk (relabel scope env).names xs vars = true := by rfl)
    (hs : ∀ x, foldedSetIterable iter env x = pure x := by intro _; rfl) : Xs w A env PN PR h (.Assign [.Name y py] (.ListComp elt [⟨target, iter, ifs, 0⟩] scope pos) spos :: rest) := by
  refine Xx.asgC (p := liftP ι p) (f := liftF ι f) (pt := liftL ι pt) (xs := xs) X src (fun C I H' d hd hC => ?_) (fun C H' d h₂ hd x mo F' => ?_) (fun C H' d h₂ hd hp x mo F' => ?_) (by simpa using hsz) (fun h' X' => k h' ?_) hsw kd hclos hkind hcell hnames hcl hnd hbk hs
  · obtain ⟨b, hb', rfl⟩ := List.mem_map.mp hd
    rw [liftL_at inj]; exact hbd C I H' b hb' hC
  · obtain ⟨b, hb', rfl⟩ := List.mem_map.mp hd
    rw [liftL_at inj] at F'; rw [liftP_at inj]; exact htest C H' b h₂ hb' x mo F'
  · obtain ⟨b, hb', rfl⟩ := List.mem_map.mp hd
    rw [liftL_at inj] at F'; rw [liftF_at inj]; rw [liftP_at inj] at hp; exact helt C H' b h₂ hb' hp x mo F'
  · rw [lift_list inj] at X'; exact X'
theorem filter_all {β : Type} (l : List β) : l.filter (fun _ => true) = l := List.filter_eq_self.mpr fun _ _ => rfl
theorem lo_two {op : Str} {t p q : Int} (n4 : op ≠ S "and") (n5 : op ≠ S "or") (n6 : op ≠ S "ite") : linesOf op t [p, q] = if op = S "xor" then [[-t, p, q], [-t, -p, -q], [t, -p, q], [t, p, -q]] else if op = S "=" then [[-t, -p, q], [-t, p, -q], [t, p, q], [t, -p, -q]] else [[-t, -p, q], [t, p], [t, -q]] := by
  unfold linesOf; rw [if_neg n4, if_neg n5, if_neg n6]
theorem definition_fn {t : Int} (g : Gd w mg mb h) (hdm : Dm H h) (bk : Bk w H a st h) (ck : Ck h c a.b) (wf : st.Wf) (sh : st.Sh t) : Fn w 5 H h 535 [.obj c, .int t] (DL (st.defn t)) := by
  refine Fn.enter (ps := [S "self", S "t"]) g hdm lk535 (by kernel_rfl) (args2 fun _ _ => rfl) rfl (fun n => rfl) (by decide) rfl rfl rfl (fun L A' W h0 h1 r e hH hW F => ?_)
  conv => arg 7; whnf
  refine Xs.hide fun PN PR kn kr => ?_
  have kr : ∀ {l : List (List Int)} {v : Value} {h' : Heap}, st.defn t = l → Ext h0 h' → Rd W h' (DL l) v → PR v h' := fun q x r => kr _ _ ⟨x, q ▸ r⟩
  have e1 := e.trans F.ext
  have g1 := g.ext e1
  have b1 := bk.in_ e1 hW
  have c1 := ck.ext e1
  have ar : Fn w 1 W h1 202 [.obj a.b, .int t] (.tup ((st.args t).map .int)) := args_fn g1 F.dm b1 sh.is
  refine Xx.swap (xs := [S "op", S "some"]) (ds := [.str (st.op t), .tup ((st.args t).map .int)]) (Fx.of F) r.hd (Ev.tup F.dm (.cons (Ev.meth g1 r (Ev.bank g1 F.var c1) b1.ob.ob (.cons F.var .nil rfl) ((op_fn g1 F.dm b1 sh.is).le (by decide)) rfl (by kernel_rfl)) (.cons (Ev.meth g1 r (Ev.bank g1 F.var c1) b1.ob.ob (.cons F.var .nil rfl) (ar.le (by decide)) rfl (by kernel_rfl)) .nil rfl) rfl)) rfl (fun h2 X2 => ?_) rfl (all2 rfl rfl) rfl
  have X2 := X2.pick (vs := [(S "op", .str (st.op t)), (S "some", .tup ((st.args t).map .int)), (S "t", .int t), (S "self", .obj c)]) ⟨rfl, rfl, rfl, rfl, trivial⟩
  refine Xs.iff (Et.cmp X2.F.var Ev.str Cm.eqS) (fun z h3 x3 => ?_) (fun z h3 x3 => ?_)
  · have q := beq_iff_eq.mp z
    have F3 := X2.F.up x3
    exact Xs.retD (Ev.list F3.dm (.cons (Ev.list F3.dm (.cons F3.var .nil rfl)) .nil rfl)) fun v h' x r => kr (if_pos q) (F3.ext.trans x) r
  have n1 := beq_no z
  have X3 := X2.up x3
  refine Xs.iff (Et.cmp X3.F.var Ev.str Cm.eqS) (fun z h4 x4 => ?_) (fun z h4 x4 => ?_)
  · have q := beq_iff_eq.mp z
    have F4 := X3.F.up x4
    exact Xs.retD (Ev.list F4.dm (.cons (Ev.list F4.dm (.cons (Ev.neg F4.var) .nil rfl)) .nil rfl)) fun v h' x r => kr ((if_neg n1).trans (if_pos q)) (F4.ext.trans x) r
  have n2 := beq_no z
  have X4 := X3.up x4
  refine Xs.iff (Et.cmp X4.F.var Ev.str Cm.eqS) (fun z h5 x5 => ?_) (fun z h5 x5 => ?_)
  · have q := beq_iff_eq.mp z
    have F5 := X4.F.up x5
    have e5 := e.trans F5.ext
    obtain ⟨m1, m2, m3, ob⟩ := (ck.ext e5).ob
    exact Xs.retD (Ev.meth (g.ext e5) r F5.var ob (.cons F5.var (.cons F5.var .nil rfl) rfl) ((distinct_fn (g.ext e5) F5.dm (bk.in_ e5 hW) (ck.ext e5) sh.len).le (by decide)) rfl (by kernel_rfl)) fun v h' x r => kr ((if_neg n1).trans ((if_neg n2).trans (if_pos q))) (F5.ext.trans x) r
  have n3 := beq_no z
  have X5 := X4.up x5
  have kr : ∀ {l : List (List Int)} {v : Value} {h' : Heap}, (if st.sort ((st.args t).getLast?.getD 0) ≠ 0 then [] else linesOf (st.op t) t ((st.args t).map st.signed)) = l → Ext h0 h' → Rd W h' (DL l) v → PR v h' := fun q => kr ((if_neg n1).trans ((if_neg n2).trans ((if_neg n3).trans q)))
  have ne := sh.some n1 n2 n3
  obtain ⟨la, hla⟩ : ∃ la, (st.args t).getLast? = some la := by
    cases q : (st.args t).getLast? with
    | none => exact absurd (List.getLast?_eq_none_iff.mp q) ne
    | some x => exact ⟨x, rfl⟩
  have hmem : la ∈ st.args t := List.mem_of_getLast? hla
  have ila := sh.part la hmem
  have lenp : 0 < (st.args t).length := List.length_pos_iff.mpr ne
  have e5 := e.trans X5.F.ext
  have g5 := g.ext e5
  have b5 := bk.in_ e5 hW
  have idx : seqIndex? (-1) ((st.args t).map D.int).length = some ((st.args t).length - 1) := by
    rw [List.length_map]
    exact seqIndex?_neg_one lenp
  have itm : ((st.args t).map D.int)[(st.args t).length - 1]? = some (.int la) := by
    rw [List.getElem?_map, ← List.getLast?_eq_getElem?, hla]; rfl
  have hl0 : (st.args t).getLast?.getD 0 = la := by rw [hla]; rfl
  rw [hl0] at kr
  refine Xs.iff (Et.cmp (Ev.meth g5 r (Ev.bank g5 X5.F.var (ck.ext e5)) b5.ob.ob (.cons (Ev.itemT X5.F.var (Ev.neg Ev.int) idx itm) .nil rfl) ((sort_fn g5 X5.F.dm b5 ila).le (by decide)) rfl (by kernel_rfl)) (Ev.BOOL g5) Cm.neI) (fun z h6 x6 => ?_) (fun z h6 x6 => ?_)
  · have q : st.sort la ≠ 0 := by simpa using z
    have F6 := X5.F.up x6
    exact Xs.retD (Ev.list F6.dm .nil) fun v h' x r => kr (if_pos q) (F6.ext.trans x) r
  have q4 : ¬ st.sort la ≠ 0 := by simpa using z
  have X6 := X5.up x6
  have kr : ∀ {l : List (List Int)} {v : Value} {h' : Heap}, linesOf (st.op t) t ((st.args t).map st.signed) = l → Ext h0 h' → Rd W h' (DL l) v → PR v h' := fun q => kr ((if_neg q4).trans q)
  have e6 := e.trans X6.F.ext
  refine Xx.asgG (p := fun _ => true) (f := fun x => .int (st.signed x)) (xs := [S "part"]) (pt := fun b => [D.int b]) inj_int X6 (Src.tup r.hd X6.F.var) (fun C I H' b hb hC => Binds.name rfl rfl hC) (fun C H' b h₂ hb x mo F' => noTest (b := true)) (fun C H' b h₂ hb hp x mo F' => ?_) (by have := sh.len; omega) (fun h7 X7 => ?_)
  · have e7 := e6.trans x
    obtain ⟨m1, m2, m3, ob⟩ := (ck.ext e7).ob
    have nW : ∀ b, b ∈ H' → b ∈ H ∨ h.get? b = none := fun b hb => (mo b hb).elim (hW b) fun z => .inr (e6.gone z)
    exact Ev.meth (g.ext e7) r F'.var ob (.cons F'.var .nil rfl) ((signed_fn (g.ext e7) F'.dm (bk.in_ e7 nW) (ck.ext e7) wf (sh.part b hb)).le (by decide)) rfl (by kernel_rfl)
  rw [filter_all] at X7
  have eq7 : (st.args t).map (fun x => D.int (st.signed x)) = ((st.args t).map st.signed).map D.int := by simp
  rw [eq7] at X7
  have hlen : ((st.args t).map st.signed).length ≤ 60 := by rw [List.length_map]; exact sh.len
  have h3 : st.op t = S "ite" → ((st.args t).map st.signed).length = 3 := fun q => by rw [List.length_map]; exact sh.three q
  have h2' : st.op t ≠ S "and" → st.op t ≠ S "or" → st.op t ≠ S "ite" → ((st.args t).map st.signed).length = 2 := fun a b c => by rw [List.length_map]; exact sh.two n1 n2 n3 a b c
  generalize (st.args t).map st.signed = ends at X7 hlen h3 h2' kr
  refine Xs.iff (Et.cmp X7.F.var Ev.str Cm.eqS) (fun z h8 x8 => ?_) (fun z h8 x8 => ?_)
  · have q := beq_iff_eq.mp z
    have F8 := X7.F.up x8
    refine Xs.retD (Ev.cast (Ev.bin (Ev.lcG (p := fun _ => true) (g := fun p => .list [.int (-t), .int p]) (xs := [S "p"]) (pt := fun b => [D.int b]) inj_int F8 (Src.list r.hd F8.var) (fun C I H' b hb hC => Binds.name rfl rfl hC) (fun C H' b h₂ hb x mo F' => noTest (b := true)) (fun C H' b h₂ hb hp x mo F' => ?_) (by omega))
      (Ev.list F8.dm (.cons (Ev.bin (Ev.list F8.dm (.cons F8.var .nil rfl)) (Ev.lcG (p := fun _ => true) (g := fun p => .int (-p)) (xs := [S "p"]) (pt := fun b => [D.int b]) inj_int F8 (Src.list r.hd F8.var) (fun C I H' b hb hC => Binds.name rfl rfl hC) (fun C H' b h₂ hb x mo F' => noTest (b := true)) (fun C H' b h₂ hb hp x mo F' => ?_) (by omega)) (Bin.cat F8.dm ?_)) .nil rfl)) (Bin.cat F8.dm ?_)) ?_) fun v h' x r => kr (if_pos q) (F8.ext.trans x) r
    · exact Ev.list F'.dm (.cons (Ev.neg F'.var) (.cons F'.var .nil rfl) rfl)
    · exact Ev.neg F'.var
    · rw [filter_all, List.length_map]; simp only [List.length_cons, List.length_nil]; omega
    · rw [filter_all, List.length_map]; simp only [List.length_cons, List.length_nil]; omega
    · rw [filter_all]; unfold DL; simp
  have n4 := beq_no z
  have X8 := X7.up x8
  refine Xs.iff (Et.cmp X8.F.var Ev.str Cm.eqS) (fun z h9 x9 => ?_) (fun z h9 x9 => ?_)
  · have q := beq_iff_eq.mp z
    have F9 := X8.F.up x9
    refine Xs.retD (Ev.cast (Ev.bin (Ev.lcG (p := fun _ => true) (g := fun p => .list [.int t, .int (-p)]) (xs := [S "p"]) (pt := fun b => [D.int b]) inj_int F9 (Src.list r.hd F9.var) (fun C I H' b hb hC => Binds.name rfl rfl hC) (fun C H' b h₂ hb x mo F' => noTest (b := true)) (fun C H' b h₂ hb hp x mo F' => ?_) (by omega))
      (Ev.list F9.dm (.cons (Ev.bin (Ev.list F9.dm (.cons (Ev.neg F9.var) .nil rfl)) F9.var (Bin.cat F9.dm ?_)) .nil rfl)) (Bin.cat F9.dm ?_)) ?_) fun v h' x r => kr ((if_neg n4).trans (if_pos q)) (F9.ext.trans x) r
    · exact Ev.list F'.dm (.cons F'.var (.cons (Ev.neg F'.var) .nil rfl) rfl)
    · rw [List.length_map]; simp only [List.length_cons, List.length_nil]; omega
    · rw [filter_all, List.length_map]; simp only [List.length_cons, List.length_nil]; omega
    · rw [filter_all]; unfold DL; simp
  have n5 := beq_no z
  have X9 := X8.up x9
  refine Xs.iff (Et.cmp X9.F.var Ev.str Cm.eqS) (fun z h10 x10 => ?_) (fun z h10 x10 => ?_)
  · have q := beq_iff_eq.mp z
    have X10 := X9.up x10
    obtain ⟨c', a', b', rfl⟩ := l3e (h3 q)
    refine Xx.unpackL (xs := [(S "c", _), (S "a", _), (S "b", _)]) X10 r.hd X10.F.var rfl rfl (fun h11 X11 => ?_) (all3 rfl rfl rfl) rfl
    have F := X11.F
    exact Xs.retD (Ev.list F.dm (.cons (Ev.list F.dm (.cons (Ev.neg F.var) (.cons (Ev.neg F.var) (.cons F.var .nil rfl) rfl) rfl))
      (.cons (Ev.list F.dm (.cons (Ev.neg F.var) (.cons F.var (.cons F.var .nil rfl) rfl) rfl))
      (.cons (Ev.list F.dm (.cons F.var (.cons (Ev.neg F.var) (.cons (Ev.neg F.var) .nil rfl) rfl) rfl))
      (.cons (Ev.list F.dm (.cons F.var (.cons F.var (.cons (Ev.neg F.var) .nil rfl) rfl) rfl)) .nil rfl) rfl) rfl) rfl)) fun v h' x r => kr ((if_neg n4).trans ((if_neg n5).trans (if_pos q))) (F.ext.trans x) r
  have n6 := beq_no z
  have X10 := X9.up x10
  obtain ⟨p', q', rfl⟩ := l2e (h2' n4 n5 n6)
  refine Xx.unpackL (xs := [(S "p", _), (S "q", _)]) X10 r.hd X10.F.var rfl rfl (fun h11 X11 => ?_) (all2 rfl rfl) rfl
  rw [lo_two n4 n5 n6] at kr
  refine Xs.iff (Et.cmp X11.F.var Ev.str Cm.eqS) (fun z h12 x12 => ?_) (fun z h12 x12 => ?_)
  · have q := beq_iff_eq.mp z
    have F := X11.F.up x12
    exact Xs.retD (Ev.list F.dm (.cons (Ev.list F.dm (.cons (Ev.neg F.var) (.cons F.var (.cons F.var .nil rfl) rfl) rfl))
      (.cons (Ev.list F.dm (.cons (Ev.neg F.var) (.cons (Ev.neg F.var) (.cons (Ev.neg F.var) .nil rfl) rfl) rfl))
      (.cons (Ev.list F.dm (.cons F.var (.cons (Ev.neg F.var) (.cons F.var .nil rfl) rfl) rfl))
      (.cons (Ev.list F.dm (.cons F.var (.cons F.var (.cons (Ev.neg F.var) .nil rfl) rfl) rfl)) .nil rfl) rfl) rfl) rfl)) fun v h' x r => kr (if_pos q) (F.ext.trans x) r
  have n7 := beq_no z
  have X12 := X11.up x12
  refine Xs.iff (Et.cmp X12.F.var Ev.str Cm.eqS) (fun z h13 x13 => ?_) (fun z h13 x13 => ?_)
  · have q := beq_iff_eq.mp z
    have F := X12.F.up x13
    exact Xs.retD (Ev.list F.dm (.cons (Ev.list F.dm (.cons (Ev.neg F.var) (.cons (Ev.neg F.var) (.cons F.var .nil rfl) rfl) rfl))
      (.cons (Ev.list F.dm (.cons (Ev.neg F.var) (.cons F.var (.cons (Ev.neg F.var) .nil rfl) rfl) rfl))
      (.cons (Ev.list F.dm (.cons F.var (.cons F.var (.cons F.var .nil rfl) rfl) rfl))
      (.cons (Ev.list F.dm (.cons F.var (.cons (Ev.neg F.var) (.cons (Ev.neg F.var) .nil rfl) rfl) rfl)) .nil rfl) rfl) rfl) rfl)) fun v h' x r => kr ((if_neg n7).trans (if_pos q)) (F.ext.trans x) r
  have n8 := beq_no z
  have F := X12.F.up x13
  exact Xs.retD (Ev.list F.dm (.cons (Ev.list F.dm (.cons (Ev.neg F.var) (.cons (Ev.neg F.var) (.cons F.var .nil rfl) rfl) rfl))
    (.cons (Ev.list F.dm (.cons F.var (.cons F.var .nil rfl) rfl))
    (.cons (Ev.list F.dm (.cons F.var (.cons (Ev.neg F.var) .nil rfl) rfl)) .nil rfl) rfl) rfl)) fun v h' x r => kr ((if_neg n7).trans (if_neg n8)) (F.ext.trans x) r
theorem Et.or2 {l r : Expr} {pos : Pos} {p q : Bool} (x : Et w A env h l p) (y : p = false → Et w A env h r q) : Et w A env h (.BoolOp .Or [l, r] pos) (p || q) := fun s Q E e k =>
  isTrue_or (x s _ E e fun v h1 tk1 x1 e1 => by
    subst e1
    cases v with
    | true => simpa using k _ h1 tk1 x1 rfl
    | false =>
      simp -iota only [Bool.false_eq_true, if_false]
      refine isTrue_or (y rfl _ _ E (e.trans x1) fun v2 h2 tk2 x2 e2 => ?_)
      subst e2
      cases v2 with
      | true => simpa using k _ h2 tk2 (x1.trans x2) rfl
      | false =>
        simp -iota only [Bool.false_eq_true, if_false]
        exact isTrue_or_nil (k _ h2 tk2 (x1.trans x2) rfl))
theorem Et.and2 {l r : Expr} {pos : Pos} {p q : Bool} (x : Et w A env h l p) (y : p = true → Et w A env h r q) : Et w A env h (.BoolOp .And [l, r] pos) (p && q) := fun s Q E e k =>
  isTrue_and (x s _ E e fun v h1 tk1 x1 e1 => by
    subst e1
    cases v with
    | false => simpa using k _ h1 tk1 x1 rfl
    | true =>
      simp -iota only [if_true]
      refine isTrue_and (y rfl _ _ E (e.trans x1) fun v2 h2 tk2 x2 e2 => ?_)
      subst e2
      cases v2 with
      | false => simpa using k _ h2 tk2 (x1.trans x2) rfl
      | true =>
        simp -iota only [if_true]
        exact isTrue_and_nil (k _ h2 tk2 (x1.trans x2) rfl))
noncomputable def FORMS : List Str := [S "true", S "false", S "and", S "or", S "xor", S "=>", S "=", S "ite", S "distinct"]
theorem lk411 : (KF w.params).lookup 411 = some o411 := by kernel_rfl
theorem Cm.forms {x : Str} (g : Gd w mg mb h) : Cm w A H h .NotIn (.str x) (.obj 411) (!decide (x ∈ FORMS)) := fun u v h₁ e0 r1 e2 s Q E e k => by
  cases e2
  have ht : s.heap.IsTuple 411 _ := ⟨_, (g.X.keeps (e0.trans e)) _ _ lk411, rfl, _, rfl⟩
  have rd : RdAll [] s.heap ((FORMS.map At.str).map At.d) [(.str (S "true") 701), (.str (S "false") 702), (.str (S "and") 703), (.str (S "or") 704), (.str (S "xor") 705), (.str (S "=>") 706), (.str (S "=") 707), (.str (S "ite") 708), (.str (S "distinct") 709)] :=
    ⟨_, _, rfl, ⟨_, rfl⟩, _, _, rfl, ⟨_, rfl⟩, _, _, rfl, ⟨_, rfl⟩, _, _, rfl, ⟨_, rfl⟩, _, _, rfl, ⟨_, rfl⟩, _, _, rfl, ⟨_, rfl⟩, _, _, rfl, ⟨_, rfl⟩, _, _, rfl, ⟨_, rfl⟩, _, _, rfl, ⟨_, rfl⟩, rfl⟩
  refine notIn_tupleAt (pickAt (FORMS.map At.str) (.str x)) ht (fun y hy => ?_) (k _ s.heap s.toks (Ext.refl _) ?_)
  · obtain ⟨b, hb, z⟩ := mem_at rd y (by simpa using hy)
    rw [pickAt_of z]; exact At.eqAt z (At.rd.mp r1) (by obtain ⟨i, _, rfl⟩ := List.mem_map.mp hb; rfl)
  · have : decide (x ∈ FORMS) = decide (At.str x ∈ FORMS.map At.str) := by rw [Bool.eq_iff_iff]; simp
    rw [this, ← any_pick (as := FORMS.map At.str) rd, List.any_toArray]
noncomputable def hits (so line : List Int) : Bool := match wd line with
  | none => false
  | some l => decide (srt l = srt so)
noncomputable def BS.lets (st : BS) (some : List Int) (t : Int) : Bool := (st.defn t).any (hits some)
noncomputable def BS.fault (st : BS) (some : List Int) (d : D) : Str := match d with
  | .int t => if st.boolB d = true ∧ st.op t ∈ FORMS then (if st.lets some t = true then S "" else S "define") else S "note"
  | _ => S "note"
theorem wdGo_len : ∀ {l f g : List Int}, wdGo l f = some g → g.length ≤ l.length + f.length
  | [], f, g, e => by cases e; omega
  | x :: l, f, g, e => by
    unfold wdGo at e
    split at e
    · cases e
    · split at e
      · have := wdGo_len e; simp; omega
      · have := wdGo_len e; simp at this ⊢; omega
theorem inj_list : ∀ a b : List Int, D.list (a.map .int) = D.list (b.map .int) → a = b := fun a b e => by
  injection e with e
  exact (List.map_inj_right fun x y z => by cases z; rfl).mp e
theorem fault_fn {d : D} {some : List Int} (g : Gd w mg mb h) (hdm : Dm H h) (bk : Bk w H a st h) (ck : Ck h c a.b) (wf : st.Wf) (hd : (∃ i, d = .int i) ∨ (∃ b, d = .bool b) ∨ d = .none) (hz : some.length < 64)
    (sh : ∀ t, d = .int t → st.boolB d = true → st.op t ∈ FORMS → st.Sh t ∧ ∀ line ∈ st.defn t, line.length < 64) : Fn w 6 H h 530 [.obj c, .list (some.map .int), d] (.str (st.fault some d)) := by
  refine Fn.enter (ps := [S "self", S "some", S "note"]) g hdm lk530 (by kernel_rfl) (args3 fun _ _ _ => rfl) rfl (fun n => rfl) (by decide) rfl rfl rfl (fun L A' W h0 h1 r e hH hW F => ?_)
  conv => arg 7; whnf
  refine Xs.hideR fun PN PR kr => ?_
  have kr : ∀ {b : Str} {v : Value} {h' : Heap}, st.fault some d = b → Ext h0 h' → Rd W h' (.str b) v → PR v h' := fun q => kr (congrArg D.str q)
  have e1 := e.trans F.ext
  have g1 := g.ext e1
  have b1 := bk.in_ e1 hW
  have c1 := ck.ext e1
  obtain ⟨m1, m2, m3, ob⟩ := c1.ob
  by_cases hB : st.boolB d = true
  · obtain ⟨t, rfl⟩ : ∃ t, d = .int t := by
      rcases hd with q | ⟨b, rfl⟩ | rfl
      · exact q
      · cases hB
      · cases hB
    have is : st.is t := by
      have hB := hB
      simp only [BS.boolB, Bool.and_eq_true, decide_eq_true_eq] at hB
      exact hB.1
    refine Xs.iff (Et.or2 (q := !decide (st.op t ∈ FORMS)) (Et.not (Et.plain (Ev.meth g1 r F.var ob (.cons F.var .nil rfl) ((boolTerm_fn g1 F.dm b1 c1 hd).le (by decide)) rfl (by kernel_rfl)) rfl)) fun z =>
      Et.cmp (Ev.meth g1 r (Ev.bank g1 F.var c1) b1.ob.ob (.cons F.var .nil rfl) ((op_fn g1 F.dm b1 is).le (by decide)) rfl (by kernel_rfl)) (Ev.name (d := .obj 411) (Nm.global (v := .ref 411) g1 (by kernel_rfl)) rfl) (Cm.forms g1)) (fun z h2 x2 => ?_) (fun z h2 x2 => ?_)
    · have nf : st.op t ∉ FORMS := by rw [hB] at z; simpa using z
      have hf : st.fault some (.int t) = S "note" := by
        show (if _ then _ else _) = _
        rw [if_neg fun z => nf z.2]
      exact Xs.retD Ev.str fun v h' x r => kr hf ((F.up x2).ext.trans x) r
    · have inf : st.op t ∈ FORMS := by rw [hB] at z; simpa using z
      have hf : st.fault some (.int t) = if st.lets some t = true then S "" else S "define" := by
        show (if _ then _ else _) = _
        rw [if_pos ⟨hB, inf⟩]
      have kr : ∀ {b : Str} {v : Value} {h' : Heap}, (if st.lets some t = true then S "" else S "define") = b → Ext h0 h' → Rd W h' (.str b) v → PR v h' := fun q => kr (hf.trans q)
      obtain ⟨sht, hll⟩ := sh t rfl hB inf
      have F2 := F.up x2
      have e2 := e.trans F2.ext
      obtain ⟨k1, k2, k3, ob2⟩ := (ck.ext e2).ob
      refine Xx.forP (fun i => ((st.defn t).take i).any (hits some) = false) (B := fun d => [(S "line", d)]) (vs := fun i => [(S "self", .obj c), (S "some", .list (some.map .int)), (S "note", .int t)]) (oo := fun i => []) (Fx.of F2)
        (Src.list r.hd (Ev.meth (g.ext e2) r F2.var ob2 (.cons F2.var .nil rfl) ((definition_fn (g.ext e2) F2.dm (bk.in_ e2 hW) (ck.ext e2) wf sht).le (by decide)) rfl (by kernel_rfl))) Tg.name rfl ⟨rfl, rfl, rfl, trivial⟩ rfl (fun i => rfl) ?_ ?_
      · intro I i d h3 nI hd pi X3
        refine Xs.hideN fun PN kn => ?_
        rw [List.getElem?_map] at hd
        obtain ⟨line, hl, rfl⟩ : ∃ line, (st.defn t)[i]? = Option.some line ∧ d = .list (line.map .int) := by
          cases q : (st.defn t)[i]? with
          | none => rw [q] at hd; cases hd
          | some x => rw [q] at hd; cases hd; exact ⟨x, rfl, rfl⟩
        obtain ⟨hi, hl'⟩ := List.getElem?_eq_some_iff.mp hl
        have e3 := e.trans X3.F.ext
        have lz := hll line (List.mem_of_getElem? hl)
        refine Xx.asg X3 (Ev.call (g.ext e3) r (Ev.fn (g.ext e3) (by kernel_rfl)) (by kernel_rfl) (.cons X3.F.var .nil rfl) ((doubles_fn (l := line) (g.ext e3) X3.F.dm (by omega)).le (by decide))) fun h4 X4 => ?_
        have e4 := e.trans X4.F.ext
        have g4 := g.ext e4
        have tk : (st.defn t).take (i + 1) = (st.defn t).take i ++ [line] := by rw [List.take_succ_eq_append_getElem hi, hl']
        cases hw : wd line with
        | none =>
          rw [hw] at X4
          have hh : hits some line = false := by unfold hits; rw [hw]
          refine Xx.if1 (PN' := fun h5 => Fx h3 _ h0 (I :: W) _ _ [] h5) X4 (Et.and2 (p := false) (q := false) (Et.cmp X4.F.var Ev.cnone Cm.isNot) fun z => absurd z (by decide)) (fun z => absurd z (by decide)) (fun z h5 X5 => X5) fun h5 X5 => ?_
          refine Xs.nil (kn _ ⟨?_, turn0 X5 ⟨rfl, rfl, rfl, trivial⟩⟩)
          rw [tk, List.any_append, pi, Bool.false_or]; simp [hh]
        | some lw =>
          rw [hw] at X4
          have X4 := X4.pick (vs := [(S "line", .list (lw.map .int)), (S "self", .obj c), (S "some", .list (some.map .int)), (S "note", .int t)]) ⟨rfl, rfl, rfl, rfl, trivial⟩
          have hh : hits some line = decide (srt lw = srt some) := by unfold hits; rw [hw]
          have lwz : lw.length < 64 := by
            have := wdGo_len hw
            simp at this; omega
          refine Xx.if1 (PN' := fun h5 => hits some line = false ∧ Fx h3 (frA (envOfC (S "StepChecker.define_fault") (dScope (mem 14 15)) L 530 (.ref 529))) h0 (I :: W) (envOfC (S "StepChecker.define_fault") (dScope (mem 14 15)) L 530 (.ref 529)) [(S "line", .list (lw.map .int)), (S "self", .obj c), (S "some", .list (some.map .int)), (S "note", .int t)] [] h5) X4 (Et.and2 (q := decide (srt lw = srt some)) (Et.cmp X4.F.var Ev.cnone Cm.isNot) fun z => Et.plain (Ev.call g4 r (Ev.fn g4 (by kernel_rfl)) (by kernel_rfl) (.cons X4.F.var (.cons X4.F.var .nil rfl) rfl) ((same_fn g4 X4.F.dm lwz hz).le (by decide))) rfl) (fun z h5 X5 => ?_) (fun z h5 X5 => ?_) fun h5 X5 => ?_
          · have lt : st.lets some t = true := List.any_eq_true.mpr ⟨line, List.mem_of_getElem? hl, by rw [hh]; exact z⟩
            exact Xs.retD (W := I :: W) Ev.str fun v h' x r => kr (if_pos lt) (X5.F.ext.trans x) r
          · exact ⟨by rw [hh]; exact z, X5⟩
          · refine Xs.nil (kn _ ⟨?_, turn0 X5.2 ⟨rfl, rfl, rfl, trivial⟩⟩)
            rw [tk, List.any_append, pi, Bool.false_or]; simp [X5.1]
      · intro h3 pi X3
        have lf : ¬ st.lets some t = true := by
          rw [List.length_map, List.take_length] at pi
          unfold BS.lets; rw [pi]; exact Bool.false_ne_true
        exact Xs.retD Ev.str fun v h' x r => kr (if_neg lf) (X3.F.ext.trans x) r
  · have hf : st.fault some d = S "note" := by
      unfold BS.fault
      rcases hd with ⟨t, rfl⟩ | ⟨b, rfl⟩ | rfl
      · show (if _ then _ else _) = _
        rw [if_neg fun z => hB z.1]
      · rfl
      · rfl
    have hB' : st.boolB d = false := by simpa using hB
    refine Xs.iff (Et.or2 (q := false) (Et.not (Et.plain (Ev.meth g1 r F.var ob (.cons F.var .nil rfl) ((boolTerm_fn g1 F.dm b1 c1 hd).le (by decide)) rfl (by kernel_rfl)) rfl)) fun z => by rw [hB'] at z; cases z) (fun z h2 x2 => ?_) (fun z h2 x2 => by rw [hB'] at z; cases z)
    exact Xs.retD Ev.str fun v h' x r => kr hf ((F.up x2).ext.trans x) r
theorem lk561 : (KF w.params).lookup 561 = some o561 := by kernel_rfl
theorem lk578 : (KF w.params).lookup 578 = some o578 := by kernel_rfl
theorem lk583 : (KF w.params).lookup 583 = some o583 := by kernel_rfl
theorem lk588 : (KF w.params).lookup 588 = some o588 := by kernel_rfl
theorem Cm.neB {a b : Bool} : Cm w A H h .NotEq (.bool a) (.bool b) (a != b) := fun u v h₁ _ e1 e2 s Q E e k => by cases e1; cases e2; exact ne_bool (k _ s.heap s.toks (Ext.refl _) rfl)
theorem Cm.neNil {l : List D} (hm : A.units < cLine) : Cm w A H h .NotEq (.list l) (.list []) (!l.isEmpty) := fun u v h₁ _ ⟨a, vs, e1, n1, hl, r1⟩ ⟨b, us, e2, n2, hl', r2⟩ s Q E e k => by
  subst e1 e2
  cases r2
  have hl := hl.at fun o q => e _ _ q
  have hl' := hl'.at fun o q => e _ _ q
  cases l with
  | nil => cases r1; exact (RcNeAt.lists (e := fun _ => true) hl hl' rfl hm (fun j h1 => absurd h1 (Nat.not_lt_zero _))) prg w E Q (k _ s.heap s.toks (Ext.refl _) rfl)
  | cons d ds => obtain ⟨v, r, rfl, _⟩ := r1; exact (RcNeAt.lists_lengths hl hl' (by simp) hm) prg w E Q (k _ s.heap s.toks (Ext.refl _) rfl)
noncomputable def BS.plain (st : BS) (t : Int) : Int × Bool := if st.op t = S "not" then ((st.args t).head!, false) else (t, true)
noncomputable def pairD (p : Int × Bool) : D := .tup [.int p.1, .bool p.2]
theorem plain_fn {t : Int} (g : Gd w mg mb h) (hdm : Dm H h) (bk : Bk w H a st h) (wf : st.Wf) (i : st.is t) : Fn w 2 H h 561 [.obj a.b, .int t] (pairD (st.plain t)) := by
  refine Fn.enter (ps := [S "bank_now", S "t"]) g hdm lk561 (by kernel_rfl) (args2 fun _ _ => rfl) rfl (fun n => rfl) (by decide) rfl rfl rfl (fun L A' W h0 h1 r e hH hW F => ?_)
  conv => arg 7; whnf
  have e1 := e.trans F.ext
  have g1 := g.ext e1
  have b1 := bk.in_ e1 hW
  refine Xs.retD (d := pairD (st.plain t)) (Ev.ite (Et.cmp (Ev.meth g1 r F.var b1.ob.ob (.cons F.var .nil rfl) (op_fn g1 F.dm b1 i) rfl (by kernel_rfl)) Ev.str Cm.eqS) (fun z => ?_) (fun z => ?_)) fun v h' x r => ⟨F.ext.trans x, r⟩
  · have q : st.op t = S "not" := beq_iff_eq.mp z
    obtain ⟨x, ex, ix, lt⟩ := wf.nots t i q
    have ar : Fn w 1 W h1 202 [.obj a.b, .int t] (.tup [.int x]) := by have := args_fn g1 F.dm b1 i; rw [ex] at this; exact this
    have : st.plain t = (x, false) := by unfold BS.plain; rw [if_pos q, ex]; rfl
    rw [this]
    exact Ev.tup F.dm (.cons (Ev.itemT (Ev.meth g1 r F.var b1.ob.ob (.cons F.var .nil rfl) ar rfl (by kernel_rfl)) Ev.int (j := 0) rfl rfl) (.cons Ev.cbool .nil rfl) rfl)
  · have q := beq_no z
    have : st.plain t = (t, true) := if_neg q
    rw [this]
    exact Ev.tup F.dm (.cons F.var (.cons Ev.cbool .nil rfl) rfl)
noncomputable def clausesStep (f : List (List Int)) (t : Int) : List (List Int) := f ++ f.map (· ++ [t]) ++ f.map (· ++ [-t])
noncomputable def clausesOf (atoms : List Int) : List (List Int) := atoms.foldl clausesStep [[]]
theorem clausesStep_len {f : List (List Int)} {t : Int} : (clausesStep f t).length = 3 * f.length := by
  unfold clausesStep
  simp only [List.length_append, List.length_map]; omega
theorem clausesOf_succ {atoms : List Int} {n : Nat} (h : n < atoms.length) : clausesOf (atoms.take (n + 1)) = clausesStep (clausesOf (atoms.take n)) atoms[n] := by
  show (atoms.take (n + 1)).foldl clausesStep [[]] = _
  rw [List.take_succ_eq_append_getElem h, List.foldl_append]; rfl
theorem clausesOf_len {atoms : List Int} : ∀ {n : Nat}, (clausesOf (atoms.take n)).length ≤ 3 ^ n
  | 0 => by simp [clausesOf]
  | n + 1 => by
    have ih := clausesOf_len (atoms := atoms) (n := n)
    by_cases h : n < atoms.length
    · rw [clausesOf_succ h, clausesStep_len, Nat.pow_succ]; omega
    · rw [List.take_of_length_le (by omega)] at ih ⊢
      rw [Nat.pow_succ]; omega
theorem clausesOf_mem {atoms : List Int} : ∀ {n : Nat}, ∀ l ∈ clausesOf (atoms.take n), l.length ≤ n
  | 0, l, hl => by simp [clausesOf] at hl; simp [hl]
  | n + 1, l, hl => by
    have ih := clausesOf_mem (atoms := atoms) (n := n)
    by_cases h : n < atoms.length
    · rw [clausesOf_succ h] at hl
      unfold clausesStep at hl
      rcases List.mem_append.mp hl with hl | hl
      · rcases List.mem_append.mp hl with hl | hl
        · have := ih l hl; omega
        · obtain ⟨l', h', rfl⟩ := List.mem_map.mp hl
          have := ih l' h'; simp; omega
      · obtain ⟨l', h', rfl⟩ := List.mem_map.mp hl
        have := ih l' h'; simp; omega
    · rw [List.take_of_length_le (by omega)] at hl
      have := ih l (by rw [List.take_of_length_le (by omega)]; exact hl)
      omega
theorem clauses_fn {atoms : List Int} (g : Gd w mg mb h) (hdm : Dm H h) (hz : atoms.length ≤ 8) : Fn w 1 H h 578 [.list (atoms.map .int)] (DL (clausesOf atoms)) := by
  refine Fn.enter (ps := [S "atoms"]) g hdm lk578 (by kernel_rfl) (args1 fun _ => rfl) rfl (fun n => rfl) (by decide) rfl rfl rfl (fun L A' W h0 h1 r e hH hW F => ?_)
  conv => arg 7; whnf
  refine Xx.asg (Fx.of F) (Ev.list F.dm (.cons (Ev.list F.dm .nil) .nil rfl)) fun h2 X2 => ?_
  refine Xx.forIn (B := fun d => [(S "t", d)]) (vs := fun i => [(S "found", DL (clausesOf (atoms.take i))), (S "atoms", .list (atoms.map .int))]) (oo := fun i => []) X2
    (Src.list r.hd X2.F.var) Tg.name ⟨rfl, rfl, trivial⟩ rfl (fun i => rfl) ?_ ?_
  · intro I i d h3 nI hd X3
    obtain ⟨hi, rfl⟩ := at_i hd
    have hl : (clausesOf (atoms.take i)).length ≤ 6561 := Nat.le_trans clausesOf_len (Nat.le_trans (Nat.pow_le_pow_right (by decide) (show i ≤ 8 by omega)) (by decide))
    have e1 := clausesOf_succ (atoms := atoms) hi
    have hm : ∀ l ∈ clausesOf (atoms.take i), l.length ≤ 8 := fun l hl => Nat.le_trans (clausesOf_mem l hl) (by omega)
    rw [e1]
    generalize clausesOf (atoms.take i) = f at hl hm X3
    generalize atoms[i] = x at X3
    refine Xx.asg (d := DL (clausesStep f x)) X3 (Ev.cast (Ev.bin (Ev.bin X3.F.var (Ev.lcG (β := List Int) (ι := fun l => .list (l.map .int)) (l := f) (p := fun _ => true) (g := fun l => .list ((l ++ [x]).map .int)) (xs := [S "clause"]) (pt := fun b => [D.list (b.map .int)]) inj_list X3.F (Src.list r.hd X3.F.var) (fun C I H' b hb hC => Binds.name rfl rfl hC) (fun C H' b h₂ hb x mo F' => noTest (b := true)) (fun C H' b h₂ hb hp x mo F' => ?_) (by omega)) (Bin.cat X3.F.dm ?_))
      (Ev.lcG (β := List Int) (ι := fun l => .list (l.map .int)) (l := f) (p := fun _ => true) (g := fun l => .list ((l ++ [-x]).map .int)) (xs := [S "clause"]) (pt := fun b => [D.list (b.map .int)]) inj_list X3.F (Src.list r.hd X3.F.var) (fun C I H' b hb hC => Binds.name rfl rfl hC) (fun C H' b h₂ hb x mo F' => noTest (b := true)) (fun C H' b h₂ hb hp x mo F' => ?_) (by omega)) (Bin.cat X3.F.dm ?_)) ?_) fun h4 X4 => ?_
    · refine Ev.cast (Ev.bin F'.var (Ev.list F'.dm (.cons F'.var .nil rfl)) (Bin.cat F'.dm ?_)) (by simp)
      have := hm b hb
      rw [List.length_map]; simp only [List.length_cons, List.length_nil]; omega
    · rw [filter_all]; simp only [List.length_map]; omega
    · refine Ev.cast (Ev.bin F'.var (Ev.list F'.dm (.cons (Ev.neg F'.var) .nil rfl)) (Bin.cat F'.dm ?_)) (by simp)
      have := hm b hb
      rw [List.length_map]; simp only [List.length_cons, List.length_nil]; omega
    · rw [filter_all]; simp only [List.length_append, List.length_map]; omega
    · rw [filter_all]; unfold DL clausesStep; simp [Function.comp_def]
    · exact Xs.nil (turn0 X4 ⟨rfl, rfl, trivial⟩)
  · intro h3 X3
    simp only [List.length_map, List.take_length] at X3
    exact Xs.retD X3.F.var fun v h' x r => ⟨X3.F.ext.trans x, r⟩
noncomputable def kept (kv : List (Int × At)) (cl : List Int) : Bool := cl.any fun x => decide (tget kv (if x < 0 then -x else x) = some (.bool (decide (x > 0))))
theorem kept_fn {kv : List (Int × At)} {cl : List Int} (g : Gd w mg mb h) (hdm : Dm H h) (hz : cl.length ≤ 1000) (hk : ∀ x ∈ cl, ∃ b, tget kv (if x < 0 then -x else x) = some (.bool b)) : Fn w 1 H h 583 [.list (cl.map .int), .tab kv] (.bool (kept kv cl)) := by
  refine Fn.enter (ps := [S "clause", S "truth_of"]) g hdm lk583 (by kernel_rfl) (args2 fun _ _ => rfl) rfl (fun n => rfl) (by decide) rfl rfl rfl (fun L A' W h0 h1 r e hH hW F => ?_)
  conv => arg 7; whnf
  have e1 := e.trans F.ext
  have g1 := g.ext e1
  refine Xs.retD (d := .bool (kept kv cl)) (Ev.cast (Ev.cmp (Ev.lcG (l := cl) (p := fun x => decide (tget kv (if x < 0 then -x else x) = some (.bool (decide (x > 0))))) (g := D.int) (xs := [S "one"]) (pt := fun b => [D.int b]) inj_int F (Src.list r.hd F.var) (fun C I H' b hb hC => Binds.name rfl rfl hC) (fun C H' b h₂ hb x mo F' => ?_) (fun C H' b h₂ hb hp x mo F' => ?_) (by omega)) (Ev.list F.dm .nil) (Cm.neNil (r.uni))) ?_) fun v h' x r => ⟨F.ext.trans x, r⟩
  · obtain ⟨bb, hbb⟩ := hk b hb
    have t1 : ∀ q : Bool, q = (bb == decide (b > 0)) → q = decide (tget kv (if b < 0 then -b else b) = some (.bool (decide (b > 0)))) := fun q e => by
      rw [e, hbb, Bool.eq_iff_iff]; simp
    rw [← t1 _ rfl]
    exact oneTest (Et.cmp (Ev.tabGet F'.var (Ev.callN (g1.ext x) (by kernel_rfl) (by kernel_rfl) (.cons F'.var .nil rfl) CB.abs) hbb) (Ev.cmp F'.var Ev.int Cm.gtI) Cm.eqB)
  · exact F'.var
  · unfold kept
    congr 1
    rw [Bool.eq_iff_iff, List.any_eq_true]
    simp [List.isEmpty_iff, List.filter_eq_nil_iff]
end
section
variable {w : World} {A : Around} {E : Value → Shared → Prop} {s : Shared}
theorem sys_size {h : Heap} {mg mb : Str → Option Value} (g : Gd w mg mb h) : (h.objs.size == sysModules) = false := sys_new g (get_new _) (Nat.le_refl _)
theorem dict_copy {mg mb : Str → Option Value} {o : Addr} {more : List (Int × Value)} {Q : Value → Shared → Prop} (g : Gd w mg mb s.heap) (ho : s.heap.DictOf (intKind prg w) o more) (sys : (o == sysModules) = false) (hz : more.length ≤ 1000)
    (k : ∀ h', Ext s.heap h' → h'.DictOf (intKind prg w) s.heap.objs.size more → Q (.ref s.heap.objs.size) { s with heap := h' }) : wpAny (model prg w) A (PySem.call (.type "dict") [.ref o]) Q E s :=
  kt_call_dict sys ho (Nat.le_trans hz (by decide)) fun h' d hs => k h' (fun b ob q => hs.extBut b ob (ne_of_get q) (Heap.get?_push_of_some _ q)) d
end
section
variable {w : World} {A : Around} {h h0 hb : Heap} {H W V : List Addr} {env : Env} {mg mb : Str → Option Value} {vars : List (Str × D)} {os : List (Addr × Own)}
variable {PN : Heap → Prop} {PR : Value → Heap → Prop} {rest body : List Stmt}
variable {a : BA} {st st' : BS} {c : Addr}
theorem Xx.ownDict {x : Str} {px pos : Pos} {e : Expr} {kv : List (Int × At)} (X : Fx hb V h0 W env vars os h)
    (m : ∀ (s : Shared) (Q : Value → Shared → Prop) (E : Value → Shared → Prop), s.heap = h → (∀ l h' tk, h.get? l = none → Ext h h' → Tab h' l kv → Q (.ref l) { s with heap := h', toks := tk }) → wpAny (model prg w) A (eval e env) Q E s)
    (k : ∀ l h', h.get? l = none → Fx hb (l :: V) h0 (l :: W) env ((x, .obj l) :: vars) ((l, .dict kv) :: os) h' → Xs w A env PN PR h' rest) (kd : locOk env x = true := by rfl)
    (hs : swapsWith e (some (.Name x px)) pos.line env = pure false := by rfl) : Xs w A env PN PR h (.Assign [.Name x px] e pos :: rest) := by
  intro s Q E he kn kr
  refine wpAny_execs_cons (wpAny_Assign_Name (m s _ E he fun l h1 tk1 n0 x1 tb => ?_) hs)
  subst he
  have n1 : h1.get? l ≠ none := by obtain ⟨o, q⟩ := tb.some; rw [q]; exact fun z => nomatch z
  have X1 : Fx hb V h0 ([l] ++ W) env vars os h1 := X.hide x1 (fun b hb => by rw [List.mem_singleton.mp hb]; exact n0) (fun b hb => by rw [List.mem_singleton.mp hb]; exact n1)
  have nf : l ∉ frA env := fun z => X.F.dm _ (X.F.inW _ z) n0
  have X2 : Fx hb (l :: V) h0 ([l] ++ W) env vars ((l, .dict kv) :: os) h1 :=
    ⟨X1.F, fun p hp => (List.mem_cons.mp hp).elim (fun e => by subst e; exact ⟨⟨tb, tb.1⟩, .head _, nf, Mv.gone (X.F.ext.mv (B := [])) n0⟩) fun hp => let ⟨a, b, c, d⟩ := X1.own p hp; ⟨a, .tail _ b, c, d⟩,
      List.nodup_cons.mpr ⟨fun z => by obtain ⟨p, hp, e⟩ := List.mem_map.mp z; exact (X.own p hp).1.some (e ▸ n0), X1.nd⟩, fun b hb => .tail _ (X1.inV b hb), fun b hb => (List.mem_cons.mp hb).elim (fun e => by subst e; exact .head _) fun hb => X1.vW b hb, X1.mv.sub fun b hb => .tail _ hb⟩
  refine X2.F.store (s := { s with heap := h1, toks := tk1 }) (d := .obj l) rfl kd fun h2 tk2 m2 F2 => ?_
  exact k _ h2 n0 (X2.stored m2 F2) _ Q E rfl kn kr
theorem dictOf {e : Expr} {np pos : Pos} {kv : List (Int × At)} (g : Gd w mg mb h) (m : Ev w A W env h e (.tab kv)) (hz : kv.length ≤ 1000)
    (q : nsIn (KF w.params) mainGlobals (S "dict") = some none) (hb : bootBuiltins (S "dict") = some (.type "dict")) (hst : starEach [e] env = (false, eval e env) :: starEach [] env := by rfl)
    (hg : env.globals = mainGlobals := by rfl) (hbb : env.builtins = builtinsNs := by rfl) (hk : env.scope.kind = .function := by rfl) (hl : env.kindOf (S "dict") = some .globalImplicit := by rfl)
    (hs : eval (.Call (.Name (S "dict") np) [e] [] pos) env = (do let __do_lift ← eval (.Name (S "dict") np) env; callWith pos __do_lift [] (backTo pos (starEach [e] env)) (backToKw pos (keywordEach [] env))) := by rfl) :
    ∀ (s : Shared) (Q : Value → Shared → Prop) (E : Value → Shared → Prop), s.heap = h → (∀ l h' tk, h.get? l = none → Ext h h' → Tab h' l kv → Q (.ref l) { s with heap := h', toks := tk }) → wpAny (model prg w) A (eval (.Call (.Name (S "dict") np) [e] [] pos) env) Q E s := fun s Q E he k => by
  subst he
  refine Call_ ((nmT g q hb (by decide) hg hbb hk hl (by decide)) np s _ E (Ext.refl _) fun u h1 tk1 x1 r => ?_) hs
  subst r
  have as : Es w A W env s.heap [e] [.tab kv] := .cons m .nil hst
  refine PyProof.Rows.callWith_type as.plain ?_
  have go := as.go (pos := pos)
  rw [hst] at go ⊢
  refine evalArgs_plain (go _ _ E x1 fun vs h2 tk2 x2 r2 => ?_)
  obtain ⟨v, rfl, l, rfl, nl, tb⟩ := one r2
  obtain ⟨kvs, d, tv⟩ := tb.on w
  refine dict_copy (s := { s with heap := h2, toks := tk2 }) ((g.ext x1).ext x2) d tb.1 (by rw [tv.length]; exact hz) fun h3 x3 d3 => ?_
  have xe : Ext s.heap h2 := x1.trans x2
  exact k _ h3 tk2 (xe.gone (get_new _)) (xe.trans x3) ⟨sys_size ((g.ext x1).ext x2), w, kvs, d3, tv⟩
noncomputable def flipT (kv : List (Int × At)) (t : Int) : List (Int × At) := match tget kv t with
  | some (.bool b) => tset kv t (.bool (!b))
  | _ => kv
noncomputable def BS.letOf (st : BS) (atoms : List Int) (t : Int) : List (List Int) := (clausesOf atoms).filter fun cl => st.fault cl (.int t) == S ""
noncomputable def rowRight (lt : List (List Int)) (t : Int) (ha : Bool) (kv : List (Int × At)) : Bool := lt.all (kept kv) && !(ha && lt.all (kept (flipT kv t)))
theorem tget_cons {p : Int × At} {r : List (Int × At)} {k : Int} : tget (p :: r) k = if p.1 = k then some p.2 else tget r k := by
  unfold tget
  rw [List.find?_cons]
  by_cases e : p.1 = k <;> simp [e]
theorem tget_map {k k' : Int} {a : At} : ∀ {kv : List (Int × At)}, tget (kv.map fun x => if x.1 = k then (x.1, a) else x) k' = if k' = k then (if kv.any (fun x => x.1 = k) = true then some a else none) else tget kv k'
  | [] => by simp [tget]
  | p :: r => by
    rw [List.map_cons, tget_cons, tget_cons, tget_map, List.any_cons]
    by_cases e : p.1 = k
    · by_cases z : k' = k
      · simp [e, z]
      · have z' : ¬ k = k' := fun q => z q.symm
        simp [e, z, z']
    · have e' : decide (p.1 = k) = false := decide_eq_false e
      rw [if_neg e, e', Bool.false_or]
      by_cases z : k' = k
      · have : ¬ p.1 = k' := fun q => e (q.trans z)
        rw [if_neg this, if_pos z, if_pos z]
      · rw [if_neg z, if_neg z]
theorem tget_app {k k' : Int} {a : At} : ∀ {kv : List (Int × At)}, kv.any (fun x => x.1 = k) = false → tget (kv ++ [(k, a)]) k' = if k' = k then some a else tget kv k'
  | [], _ => by
    show tget [(k, a)] k' = _
    rw [tget_cons]
    by_cases z : k' = k
    · simp [z]
    · have z' : ¬ k = k' := fun q => z q.symm
      simp [z, z']
  | p :: r, h => by
    rw [List.any_cons, Bool.or_eq_false_iff] at h
    have ne : ¬ p.1 = k := by simpa using h.1
    rw [List.cons_append, tget_cons, tget_cons, tget_app h.2]
    by_cases z : k' = k
    · have : ¬ p.1 = k' := fun q => ne (q.trans z)
      simp [z, ne]
    · simp [z]
theorem tget_set {kv : List (Int × At)} {k k' : Int} {a : At} : tget (tset kv k a) k' = if k' = k then some a else tget kv k' := by
  unfold tset
  by_cases hk : kv.any (fun x => x.1 = k) = true
  · rw [if_pos hk, tget_map, if_pos hk]
  · rw [if_neg hk, tget_app (Bool.eq_false_iff.mpr hk)]
theorem tset_len {kv : List (Int × At)} {k : Int} {a : At} : (tset kv k a).length ≤ kv.length + 1 := by
  unfold tset
  split
  · simp
  · simp
theorem flip_get {kv : List (Int × At)} {t x : Int} {b : Bool} (h : tget kv t = some (.bool b)) : tget (flipT kv t) x = if x = t then some (.bool (!b)) else tget kv x := by
  unfold flipT
  rw [h]
  exact tget_set
theorem right_fn {t : Int} {atoms : List Int} {rows : List (List (Int × At))} {ha : Bool} (g : Gd w mg mb h) (hdm : Dm H h) (bk : Bk w H a st h) (ck : Ck h c a.b) (wf : st.Wf) (hz : atoms.length ≤ 8)
    (sh : st.boolB (.int t) = true → st.op t ∈ FORMS → st.Sh t ∧ ∀ line ∈ st.defn t, line.length < 64)
    (hrow : ∀ kv ∈ rows, kv.length ≤ 900 ∧ (∃ b, tget kv t = some (.bool b)) ∧ ∀ cl ∈ st.letOf atoms t, ∀ x ∈ cl, ∃ b, tget kv (if x < 0 then -x else x) = some (.bool b)) (hr : rows.length ≤ 1000) :
    Fn w 8 H h 588 [.obj c, .int t, .list (atoms.map .int), .list (rows.map .tab), .bool ha] (.bool (rows.all (rowRight (st.letOf atoms t) t ha))) := by
  refine Fn.enter (ps := [S "checker_now", S "t", S "atoms", S "rows", S "has_all"]) g hdm lk588 (by kernel_rfl) (args5 fun _ _ _ _ _ => rfl) rfl (fun n => rfl) (by decide) rfl rfl rfl (fun L A' W h0 h1 r e hH hW F => ?_)
  conv => arg 7; whnf
  refine Xs.hideR fun PN PR kr => ?_
  have kr : ∀ {b : Bool} {v : Value} {h' : Heap}, rows.all (rowRight (st.letOf atoms t) t ha) = b → Ext h0 h' → Rd W h' (.bool b) v → PR v h' := fun q => kr (congrArg D.bool q)
  have e1 := e.trans F.ext
  have g1 := g.ext e1
  have cm : ∀ l ∈ clausesOf atoms, l.length ≤ 8 := fun l hl => by
    have : clausesOf (atoms.take atoms.length) = clausesOf atoms := by rw [List.take_length]
    exact Nat.le_trans (clausesOf_mem (n := atoms.length) l (by rw [this]; exact hl)) hz
  have cl : (clausesOf atoms).length ≤ 6561 := by
    have : clausesOf (atoms.take atoms.length) = clausesOf atoms := by rw [List.take_length]
    rw [← this]
    exact Nat.le_trans clausesOf_len (Nat.le_trans (Nat.pow_le_pow_right (by decide) hz) (by decide))
  refine Xx.asgG (β := List Int) (ι := fun l => .list (l.map .int)) (l := clausesOf atoms) (p := fun cl => st.fault cl (.int t) == S "") (f := fun l => .list (l.map .int)) (xs := [S "clause"]) (pt := fun b => [D.list (b.map .int)]) inj_list (Fx.of F)
    (Src.list r.hd (Ev.call g1 r (Ev.fn g1 (by kernel_rfl)) (by kernel_rfl) (.cons F.var .nil rfl) ((clauses_fn g1 F.dm hz).le (by decide)))) (fun C I H' b hb hC => Binds.name rfl rfl hC) (fun C H' b h₂ hb x mo F' => ?_) (fun C H' b h₂ hb hp x mo F' => ?_) (by omega) (fun h2 X2 => ?_)
  · have e2 := e1.trans x
    obtain ⟨k1, k2, k3, ob⟩ := (ck.ext e2).ob
    have nW : ∀ b, b ∈ H' → b ∈ H ∨ h.get? b = none := fun b hb => (mo b hb).elim (hW b) fun z => .inr (e1.gone z)
    exact oneTest (Et.cmp (Ev.meth (g.ext e2) r F'.var ob (.cons F'.var (.cons F'.var .nil rfl) rfl) ((fault_fn (g.ext e2) F'.dm (bk.in_ e2 nW) (ck.ext e2) wf (.inl ⟨t, rfl⟩) (by have := cm b hb; omega) (fun t' q => by cases q; exact sh)).le (by decide)) rfl (by kernel_rfl)) Ev.str Cm.eqS)
  · exact F'.var
  have eL : (((clausesOf atoms).filter fun cl => st.fault cl (.int t) == S "").map fun l => D.list (l.map .int)) = (st.letOf atoms t).map fun l => D.list (l.map .int) := rfl
  rw [eL] at X2
  have lm : ∀ l ∈ st.letOf atoms t, l.length ≤ 8 := fun l hl => cm l (List.mem_filter.mp hl).1
  have ll : (st.letOf atoms t).length ≤ 6561 := Nat.le_trans (List.length_filter_le _ _) cl
  generalize st.letOf atoms t = lt at hrow X2 lm ll kr
  refine Xx.forP (fun i => (rows.take i).all (rowRight lt t ha) = true) (B := fun d => [(S "truth_of", d)]) (vs := fun i => [(S "let", DL lt), (S "checker_now", .obj c), (S "t", .int t), (S "atoms", .list (atoms.map .int)), (S "rows", .list (rows.map .tab)), (S "has_all", .bool ha)]) (oo := fun i => []) X2
    (Src.list r.hd X2.F.var) Tg.name rfl ⟨rfl, rfl, rfl, rfl, rfl, rfl, trivial⟩ rfl (fun i => rfl) ?_ ?_
  · intro I i d h3 nI hd pi X3
    refine Xs.hideN fun PN kn => ?_
    rw [List.getElem?_map] at hd
    obtain ⟨kv, hkv, rfl⟩ : ∃ kv, rows[i]? = some kv ∧ d = .tab kv := by
      cases q : rows[i]? with
      | none => rw [q] at hd; cases hd
      | some x => rw [q] at hd; cases hd; exact ⟨x, rfl, rfl⟩
    obtain ⟨hi, hkv'⟩ := List.getElem?_eq_some_iff.mp hkv
    obtain ⟨kl, ⟨b, kt⟩, kc⟩ := hrow kv (List.mem_of_getElem? hkv)
    have tk : rows.take (i + 1) = rows.take i ++ [kv] := by rw [List.take_succ_eq_append_getElem hi, hkv']
    have e3 := e.trans X3.F.ext
    have g3 := g.ext e3
    have bad : rowRight lt t ha kv = false → rows.all (rowRight lt t ha) = false := fun q => by
      rw [Bool.eq_false_iff]; intro z
      have := List.all_eq_true.mp z kv (List.mem_of_getElem? hkv)
      rw [q] at this; cases this
    refine Xs.iff (Et.cmp (Ev.lcG (β := List Int) (ι := fun l => .list (l.map .int)) (l := lt) (p := fun cl => !kept kv cl) (g := fun l => .list (l.map .int)) (xs := [S "clause"]) (pt := fun b => [D.list (b.map .int)]) inj_list X3.F (Src.list r.hd X3.F.var) (fun C I H' b hb hC => Binds.name rfl rfl hC) (fun C H' cl h₂ hb x mo F' => ?_) (fun C H' b h₂ hb hp x mo F' => ?_) (by omega)) (Ev.list X3.F.dm .nil) (Cm.neNil r.uni)) (fun z h4 x4 => ?_) (fun z h4 x4 => ?_)
    · exact oneTest (Et.not (Et.plain (Ev.call (g3.ext x) r (Ev.fn (g3.ext x) (by kernel_rfl)) (by kernel_rfl) (.cons F'.var (.cons F'.var .nil rfl) rfl) ((kept_fn (g3.ext x) F'.dm (by have := lm cl hb; omega) (kc cl hb)).le (by decide))) rfl))
    · exact F'.var
    · have nk : lt.all (kept kv) = false := by
        rw [Bool.eq_false_iff]
        intro q
        have : lt.filter (fun cl => !kept kv cl) = [] := List.filter_eq_nil_iff.mpr fun x hx => by rw [List.all_eq_true.mp q x hx]; decide
        rw [this] at z; exact nomatch z
      exact Xs.retD (W := I :: W) Ev.cbool fun v h' x r => kr (bad (by unfold rowRight; rw [nk]; rfl)) ((X3.F.up x4).ext.trans x) r
    have ak : lt.all (kept kv) = true := by
      rw [List.all_eq_true]
      intro x hx
      have : lt.filter (fun cl => !kept kv cl) = [] := by
        cases q : lt.filter (fun cl => !kept kv cl) with
        | nil => rfl
        | cons y ys => rw [q] at z; exact nomatch z
      have := List.filter_eq_nil_iff.mp this x hx
      simpa using this
    have X4 := X3.up x4
    have e4 := e.trans X4.F.ext
    refine Xx.ownDict X4 (dictOf (g.ext e4) X4.F.var (by omega) (by kernel_rfl) (by kernel_rfl)) fun l h5 ln X5 => ?_
    refine Xx.setItem (a := .bool (!b)) X5 (Ev.not (Ev.tabGet X5.F.var X5.F.var kt) rfl) X5.F.var X5.F.var (by omega) fun h6 X6 => ?_
    have lW : l ∉ I :: W := fun z => X4.F.dm _ z ln
    have lb : h3.get? l = none := x4.gone ln
    have X7 := Fx.freezeD (x := S "other") X6 rfl lW lb X4.inV X4.vW (fun p hp => absurd hp List.not_mem_nil)
    have ef : tset kv t (.bool (!b)) = flipT kv t := by unfold flipT; rw [kt]
    rw [ef] at X7
    have X7 := X7.pick (vs := [(S "other", .tab (flipT kv t)), (S "truth_of", .tab kv), (S "let", DL lt), (S "checker_now", .obj c), (S "t", .int t), (S "atoms", .list (atoms.map .int)), (S "rows", .list (rows.map .tab)), (S "has_all", .bool ha)]) ⟨rfl, rfl, rfl, rfl, rfl, rfl, rfl, rfl, trivial⟩
    have e7 := e.trans X7.F.ext
    have g7 := g.ext e7
    have kc' : ∀ cl ∈ lt, ∀ x ∈ cl, ∃ b, tget (flipT kv t) (if x < 0 then -x else x) = some (.bool b) := fun cl hcl x hx => by
      have q := kc cl hcl x hx
      generalize (if x < 0 then -x else x) = y at q ⊢
      rw [flip_get kt]
      by_cases z : y = t
      · rw [if_pos z]; exact ⟨_, rfl⟩
      · rw [if_neg z]; exact q
    have hq : (((lt.filter fun cl => !kept (flipT kv t) cl).map fun l => D.list (l.map .int)).isEmpty) = lt.all (kept (flipT kv t)) := by
      rw [Bool.eq_iff_iff, List.isEmpty_iff, List.map_eq_nil_iff, List.filter_eq_nil_iff, List.all_eq_true]
      exact ⟨fun q x hx => by simpa using q x hx, fun q x hx => by simpa using q x hx⟩
    refine Xx.if1 (PN' := fun h8 => rowRight lt t ha kv = true ∧ Fx h3 (frA (envOfC (S "_law_are_right") (dScope (top 22)) L 588 (.ref 587))) h0 (I :: W) (envOfC (S "_law_are_right") (dScope (top 22)) L 588 (.ref 587)) [(S "other", .tab (flipT kv t)), (S "truth_of", .tab kv), (S "let", DL lt), (S "checker_now", .obj c), (S "t", .int t), (S "atoms", .list (atoms.map .int)), (S "rows", .list (rows.map .tab)), (S "has_all", .bool ha)] [] h8) X7
      (Et.and2 (Et.plain X7.F.var rfl) fun z => Et.cmp (Ev.lcG (β := List Int) (ι := fun l => .list (l.map .int)) (l := lt) (p := fun cl => !kept (flipT kv t) cl) (g := fun l => .list (l.map .int)) (xs := [S "clause"]) (pt := fun b => [D.list (b.map .int)]) inj_list X7.F (Src.list r.hd X7.F.var) (fun C I H' b hb hC => Binds.name rfl rfl hC) (fun C H' cl h₂ hb x mo F' => ?_) (fun C H' b h₂ hb hp x mo F' => ?_) (by omega)) (Ev.list X7.F.dm .nil) (Cm.eqNil r.uni)) (fun z h8 X8 => ?_) (fun z h8 X8 => ?_) fun h8 X8 => ?_
    · exact oneTest (Et.not (Et.plain (Ev.call (g7.ext x) r (Ev.fn (g7.ext x) (by kernel_rfl)) (by kernel_rfl) (.cons F'.var (.cons F'.var .nil rfl) rfl) ((kept_fn (g7.ext x) F'.dm (by have := lm cl hb; omega) (kc' cl hb)).le (by decide))) rfl))
    · exact F'.var
    · rw [hq] at z
      have : rowRight lt t ha kv = false := by unfold rowRight; rw [z]; simp
      exact Xs.retD (W := I :: W) Ev.cbool fun v h' x r => kr (bad this) (X8.F.ext.trans x) r
    · rw [hq] at z
      refine ⟨?_, X8⟩
      unfold rowRight; rw [ak, z]; rfl
    · refine Xs.nil (kn _ ⟨?_, turn0 X8.2 ⟨rfl, rfl, rfl, rfl, rfl, rfl, trivial⟩⟩)
      rw [tk, List.all_append, pi]; simp [X8.1]
  · intro h3 pi X3
    rw [List.length_map, List.take_length] at pi
    exact Xs.retD Ev.cbool fun v h' x r => kr pi (X3.F.ext.trans x) r
theorem Cm.inBools {x : Bool} {l : List Bool} : Cm w A H h .In (.bool x) (.list (l.map .bool)) (decide (x ∈ l)) := by
  have := Cm.inL (w := w) (A := A) (H := H) (h := h) (x := .bool x) (l := l.map At.bool) (fun a ha => by obtain ⟨i, _, rfl⟩ := List.mem_map.mp ha; rfl)
  have e1 : (l.map At.bool).map At.d = l.map D.bool := by simp [At.d]
  have e2 : decide (At.bool x ∈ l.map At.bool) = decide (x ∈ l) := by rw [Bool.eq_iff_iff]; simp
  rw [e1, e2] at this
  exact this
theorem Cm.notInBools {x : Bool} {l : List Bool} : Cm w A H h .NotIn (.bool x) (.list (l.map .bool)) (!decide (x ∈ l)) := by
  have := Cm.notInL (w := w) (A := A) (H := H) (h := h) (x := .bool x) (l := l.map At.bool) (fun a ha => by obtain ⟨i, _, rfl⟩ := List.mem_map.mp ha; rfl)
  have e1 : (l.map At.bool).map At.d = l.map D.bool := by simp [At.d]
  have e2 : decide (At.bool x ∈ l.map At.bool) = decide (x ∈ l) := by rw [Bool.eq_iff_iff]; simp
  rw [e1, e2] at this
  exact this
theorem Cm.inStrs {x : Str} {l : List Str} : Cm w A H h .In (.str x) (.tup (l.map .str)) (decide (x ∈ l)) := by
  have := Cm.inT (w := w) (A := A) (H := H) (h := h) (x := .str x) (l := l.map At.str) (fun a ha => by obtain ⟨i, _, rfl⟩ := List.mem_map.mp ha; rfl)
  have e1 : (l.map At.str).map At.d = l.map D.str := by simp [At.d]
  have e2 : decide (At.str x ∈ l.map At.str) = decide (x ∈ l) := by rw [Bool.eq_iff_iff]; simp
  rw [e1, e2] at this
  exact this
theorem lk573' : (KF w.params).lookup 573 = some o573 := by kernel_rfl
noncomputable def meant (op : Str) (bs : List Bool) : Bool :=
  if op = S "and" then !decide (false ∈ bs) else
  if op = S "or" then decide (true ∈ bs) else
  if op ∈ [S "xor", S "distinct"] then bs[0]! != bs[1]! else
  if op = S "=>" then !bs[0]! || bs[1]! else
  if op = S "=" then bs[0]! == bs[1]! else if bs[0]! then bs[1]! else bs[2]!
theorem get_bool {l : List Bool} {i : Nat} (h : i < l.length) : (l.map D.bool)[i]? = some (.bool l[i]!) := by
  rw [List.getElem?_map, List.getElem?_eq_getElem h, getElem!_pos l i h]; rfl
theorem Ev.boolAt {v i : Expr} {pos : Pos} {l : List Bool} {k : Nat} (x : Ev w A H env h v (.list (l.map .bool))) (y : Ev w A H env h i (.int k)) (hk : k < l.length) (hz : l.length ≤ 1000)
    (hs : ∀ a t, subscripted i false (.ref a) (.int k t) = operate [.ref a, .int k t] (getItem (.ref a) (.int k t)) := by intro _ _; rfl) : Ev w A H env h (.Subscript v i pos) (.bool l[k]!) :=
  Ev.itemL x y (by omega) (get_bool hk) (by omega) hs
theorem meant_fn {op : Str} {bs : List Bool} (g : Gd w mg mb h) (hdm : Dm H h) (hz : bs.length ≤ 1000) (h2 : op ≠ S "and" → op ≠ S "or" → 2 ≤ bs.length) (hI : op = S "ite" → 3 ≤ bs.length) (hop : op ∈ [S "and", S "or", S "xor", S "=>", S "=", S "ite", S "distinct"]) :
    Fn w 1 H h 573 [.str op, .list (bs.map .bool)] (.bool (meant op bs)) := by
  refine Fn.enter (ps := [S "op", S "truths"]) g hdm lk573' (by kernel_rfl) (args2 fun _ _ => rfl) rfl (fun n => rfl) (by decide) rfl rfl rfl (fun L A' W h0 h1 r e hH hW F => ?_)
  conv => arg 7; whnf
  refine Xs.hideR fun PN PR kr => ?_
  have kr : ∀ {b : Bool} {v : Value} {h' : Heap}, meant op bs = b → Ext h0 h' → Rd W h' (.bool b) v → PR v h' := fun q => kr (congrArg D.bool q)
  refine Xs.iff (Et.cmp F.var Ev.str Cm.eqS) (fun z h3 x3 => ?_) (fun z h3 x3 => ?_)
  · have F3 := F.up x3
    exact Xs.retD (Ev.cmp Ev.cbool F3.var Cm.notInBools) fun v h' x r => kr (if_pos (beq_iff_eq.mp z)) (F3.ext.trans x) r
  have n1 := beq_no z
  have F := F.up x3
  refine Xs.iff (Et.cmp F.var Ev.str Cm.eqS) (fun z h3 x3 => ?_) (fun z h3 x3 => ?_)
  · have F3 := F.up x3
    exact Xs.retD (Ev.cmp Ev.cbool F3.var Cm.inBools) fun v h' x r => kr ((if_neg n1).trans (if_pos (beq_iff_eq.mp z))) (F3.ext.trans x) r
  have n2 := beq_no z
  have F := F.up x3
  have l2 := h2 n1 n2
  refine Xs.iff (Et.cmp F.var (Ev.tup F.dm (.cons Ev.str (.cons Ev.str .nil rfl) rfl)) (Cm.inStrs (l := [S "xor", S "distinct"]))) (fun z h3 x3 => ?_) (fun z h3 x3 => ?_)
  · have F3 := F.up x3
    exact Xs.retD (Ev.cmp (Ev.boolAt F3.var Ev.int (k := 0) (by omega) (by omega)) (Ev.boolAt F3.var Ev.int (k := 1) (by omega) (by omega)) Cm.neB) fun v h' x r => kr ((if_neg n1).trans ((if_neg n2).trans (if_pos (of_decide_eq_true z)))) (F3.ext.trans x) r
  have n3 : op ∉ [S "xor", S "distinct"] := of_decide_eq_false z
  have F := F.up x3
  refine Xs.iff (Et.cmp F.var Ev.str Cm.eqS) (fun z h3 x3 => ?_) (fun z h3 x3 => ?_)
  · have w := beq_iff_eq.mp z
    have F3 := F.up x3
    refine Xs.retD (d := .bool (!bs[0]! || bs[1]!)) (Ev.or2 (Ev.not (Ev.boolAt F3.var Ev.int (k := 0) (by omega) (by omega)) rfl) rfl (fun z => ?_) (fun z => ?_)) fun v h' x r => kr ((if_neg n1).trans ((if_neg n2).trans ((if_neg n3).trans (if_pos w)))) (F3.ext.trans x) r
    · rw [z, Bool.false_or]
      exact Ev.boolAt F3.var Ev.int (k := 1) (by omega) (by omega)
    · rw [z, Bool.true_or]
  have n4 := beq_no z
  have F := F.up x3
  refine Xs.retD (d := .bool (if op = S "=" then bs[0]! == bs[1]! else if bs[0]! then bs[1]! else bs[2]!)) (Ev.ite (Et.cmp F.var Ev.str Cm.eqS) (fun z => ?_) (fun z => ?_)) fun v h' x r => kr ((if_neg n1).trans ((if_neg n2).trans ((if_neg n3).trans (if_neg n4)))) (F.ext.trans x) r
  · rw [if_pos (beq_iff_eq.mp z)]
    exact Ev.cmp (Ev.boolAt F.var Ev.int (k := 0) (by omega) (by omega)) (Ev.boolAt F.var Ev.int (k := 1) (by omega) (by omega)) Cm.eqB
  · have n5 := beq_no z
    rw [if_neg n5]
    have n6 : op = S "ite" := by
      simp only [List.mem_cons, List.not_mem_nil, or_false, not_or] at hop n3
      rcases hop with q | q | q | q | q | q | q
      · exact absurd q n1
      · exact absurd q n2
      · exact absurd q n3.1
      · exact absurd q n4
      · exact absurd q n5
      · exact q
      · exact absurd q n3.2
    have l3 := hI n6
    refine Ev.ite (Et.plain (Ev.boolAt F.var Ev.int (k := 0) (by omega) (by omega)) rfl) (fun z => ?_) (fun z => ?_)
    · rw [if_pos z]; exact Ev.boolAt F.var Ev.int (k := 1) (by omega) (by omega)
    · rw [if_neg (by rw [z]; decide)]; exact Ev.boolAt F.var Ev.int (k := 2) (by omega) (by omega)
theorem Ev.less {e : Expr} {d : D} {H' : List Addr} (x : Ev w A H env h e d) (q : ∀ b ∈ H', b ∈ H) : Ev w A H' env h e d := x.imp fun v h' r => r.less q
theorem PL.move {x l : Addr} {ds : List D} {h' : Heap} (p : PL V H h l ds) (m : Mv [x] h h') (ne : l ≠ x) (hx : x ∈ V) : PL V H h' l ds := by
  obtain ⟨n, vs, ⟨k, e⟩, r⟩ := p
  exact ⟨n, vs, ⟨k, m.off _ _ (fun z => ne (List.mem_singleton.mp z)) e⟩, r.to (To.mv m fun b hb => by rw [List.mem_singleton.mp hb]; exact List.mem_append_left _ hx)⟩
theorem Num.move {x d : Addr} {ts : List Key} {h' : Heap} (p : Num w V H h d ts) (m : Mv [x] h h') (ne : d ≠ x) (hx : x ∈ V) (ok : ∀ k ∈ ts, PyData.strOk k.1 = true) : Num w V H h' d ts := by
  obtain ⟨n, xs, ⟨o, es, ep, e1, e2, e3, e4, e5, e6⟩, nk, r⟩ := p
  have r' : ∀ x ∈ xs, Rd (V ++ H) h' x.1.d (.ref x.2.1) := fun x' hx' => (r x' hx').to (To.mv m fun b hb => by rw [List.mem_singleton.mp hb]; exact List.mem_append_left _ hx)
  refine ⟨n, xs, ⟨o, es, ep, m.off _ _ (fun z => ne (List.mem_singleton.mp z)) e1, e2, e3, e4, fun y hy => ?_, e6⟩, nk, r'⟩
  obtain ⟨a, ea, ka⟩ := Key.at_of (ok y.1 (nk.1 ▸ List.mem_map_of_mem (f := (·.1)) hy)) (r' y hy)
  cases ea; exact ka
theorem ObH.move {x o C : Addr} {af : Str → Option Value} {h' : Heap} (p : ObH (V ++ H) h o C af) (m : Mv [x] h h') (hx : x ∈ V) : ObH (V ++ H) h' o C af := p.to (To.mv m fun b hb => by rw [List.mem_singleton.mp hb]; exact List.mem_append_left _ hx)
theorem PL.ol {l : Addr} {ds : List D} (p : PL V H h l ds) (q : ∀ b ∈ V ++ H, b ∈ W) (q' : ∀ b ∈ W, b ∈ V ++ H) : OL W h l ds := let ⟨_, vs, e, r⟩ := p; ⟨vs, e, r.to (To.less q')⟩
theorem OL.pl {l : Addr} {ds : List D} (o : OL W h l ds) (n : l ∉ H) (q : ∀ b ∈ V ++ H, b ∈ W) : PL V H h l ds := let ⟨vs, e, r⟩ := o; ⟨n, vs, e, r.to (To.less q)⟩
structure Bk5 (w : World) (H : List Addr) (a : BA) (o ar so da : List D) (ts : List Key) (h : Heap) : Prop where
  ops : PL a.V H h a.to o
  args : PL a.V H h a.ta ar
  sorts : PL a.V H h a.ts so
  datas : PL a.V H h a.td da
  num : Num w a.V H h a.nu ts
structure BkR (w : World) (m : Nat) (H : List Addr) (a : BA) (ns nf : Nat) (h : Heap) : Prop where
  ob : ObH (a.V ++ H) h a.b 408 (a.afm m)
  sn : ∃ ds, (ds.length = ns ∧ noTabs ds = true) ∧ PL a.V H h a.sn ds
  sw : ∃ ds, (ds.length = ns ∧ noTabs ds = true) ∧ PL a.V H h a.sw ds
  fn : ∃ ds, (ds.length = nf ∧ noTabs ds = true) ∧ PL a.V H h a.fn ds
  fa : ∃ ds, (ds.length = nf ∧ noTabs ds = true) ∧ PL a.V H h a.fa ds
  fr : ∃ ds, (ds.length = nf ∧ noTabs ds = true) ∧ PL a.V H h a.fr ds
theorem Bk0.five {m : Nat} (b : Bk0 w m H a st h) : Bk5 w H a (opsD st.ts) (argsD st.ts) (sortsD st.ts) (datasD st.ts) st.ts h := ⟨b.ops, b.args, b.sorts, b.datas, b.num⟩
theorem Bk0.lone {m : Nat} (b : Bk0 w m H a st h) : BkR w m H a st.ns st.nf h := ⟨b.ob, b.sn, b.sw, b.fn, b.fa, b.fr⟩
theorem BkR.move {m' : Nat} {x : Addr} {ns nf : Nat} {h' : Heap} (p : BkR w m' H a ns nf h) (m : Mv [x] h h') (hx : x ∈ a.V) (n1 : a.sn ≠ x) (n2 : a.sw ≠ x) (n3 : a.fn ≠ x) (n4 : a.fa ≠ x) (n5 : a.fr ≠ x) : BkR w m' H a ns nf h' :=
  ⟨p.ob.move m hx, let ⟨d, e, q⟩ := p.sn; ⟨d, e, q.move m n1 hx⟩, let ⟨d, e, q⟩ := p.sw; ⟨d, e, q.move m n2 hx⟩, let ⟨d, e, q⟩ := p.fn; ⟨d, e, q.move m n3 hx⟩, let ⟨d, e, q⟩ := p.fa; ⟨d, e, q.move m n4 hx⟩, let ⟨d, e, q⟩ := p.fr; ⟨d, e, q.move m n5 hx⟩⟩
theorem Bk5.join {m : Nat} {ts : List Key} {ns nf : Nat} (p : Bk5 w H a (opsD ts) (argsD ts) (sortsD ts) (datasD ts) ts h) (q : BkR w m H a ns nf h) (ok : ∀ k ∈ ts, PyData.strOk k.1 = true) (sm : ts.length ≤ 1000 ∧ ns ≤ 1000 ∧ nf ≤ 1000) (nd : a.V.Nodup) (sys : (a.nu == sysModules) = false) : Bk0 w m H a ⟨ts, ns, nf⟩ h :=
  ⟨q.ob, p.ops, p.args, p.sorts, p.datas, q.sn, q.sw, q.fn, q.fa, q.fr, p.num, ok, sm, nd, sys⟩
noncomputable def BS.made (st : BS) (k : Key) : BS := if numOf st.ts k = 0 then { st with ts := st.ts ++ [k] } else st
noncomputable def BS.numM (st : BS) (k : Key) : Int := if numOf st.ts k = 0 then st.ts.length + 1 else numOf st.ts k
theorem nd_ne {l : List Addr} (nd : l.Nodup) {i j : Nat} {x y : Addr} (hi : l[i]? = some x) (hj : l[j]? = some y) (h : i ≠ j) : x ≠ y := fun e => by
  subst e
  obtain ⟨h1, e1⟩ := List.getElem?_eq_some_iff.mp hi
  exact h ((List.getElem?_inj h1 nd).mp (hi.trans hj.symm))
theorem lk237 : (KF w.params).lookup 237 = some o237 := by kernel_rfl
noncomputable def Mk0 (w : World) (m : Nat) (hb : Heap) (k : Nat) (H : List Addr) (a : BA) (st st' : BS) (f : Addr) (ds : List D) (d : D) : Prop :=
  ∀ A h vs, Rm A k → Ext hb h → Bk0 w m H a st h → (∀ b ∈ a.V, hb.get? b = none) → Dm (a.V ++ H) h → RdAll (a.V ++ H) h ds vs → Mx w A h (PySem.call (.ref f) vs) (fun v h' => Mv a.V h h' ∧ Bk0 w m H a st' h' ∧ Rd (a.V ++ H) h' d v)
noncomputable abbrev Mk (w : World) (hb : Heap) (k : Nat) (H : List Addr) (a : BA) (st st' : BS) (f : Addr) (ds : List D) (d : D) : Prop := Mk0 w 2 hb k H a st st' f ds d
theorem Ev.intAny {e : Expr} {i : Int} {H H' : List Addr} (x : Ev w A H env h e (.int i)) : Ev w A H' env h e (.int i) := x
theorem Xs.setNum {o i value : Expr} {tp pos : Pos} {d : Addr} {ts : List Key} {k : Key} (F : Fm h0 W env vars h) (hm : A.units + 100 < cLine) (n : Num w V H h d ts) (ok : ∀ k ∈ ts, PyData.strOk k.1 = true) (hk : PyData.strOk k.1 = true) (nm : numOf ts k = 0) (sz : ts.length ≤ 1000)
    (dV : d ∈ V) (dW : d ∈ W) (df : d ∉ frA env) (d0 : h0.get? d = none) (s1 : ∀ b ∈ V ++ H, b ∈ W) (hv : Ev w A W env h value (.int (ts.length + 1))) (ho : Ev w A W env h o (.obj d)) (hi : Ev w A W env h i k.d)
    (kk : ∀ h', Fm h0 W env vars h' → Num w V H h' d (ts ++ [k]) → Mv [d] h h' → Xs w A env PN PR h' rest) (hs : swapsWith value (some (.Subscript o i tp)) pos.line env = pure false := by rfl) :
    Xs w A env PN PR h (.Assign [.Subscript o i tp] value pos :: rest) := fun s Q E he kn kr => by
  subst he
  refine wpAny_execs_cons (wpAny_Assign_Subscript (hv s _ E (Ext.refl _) fun v h1 tk1 x1 r1 => ho _ _ E x1 fun ov h2 tk2 x2 r2 => hi _ _ E (x1.trans x2) fun iv h3 tk3 x3 r3 => ?_) hs)
  cases r2
  obtain ⟨tv, rfl⟩ := r1
  have xe := x1.trans (x2.trans x3)
  have n3 := n.to (To2.ext xe) ok
  obtain ⟨nH, xs, dx, nk, rk⟩ := n3
  obtain ⟨a, rfl, ka⟩ := Key.at_of hk r3
  have none : atKey xs k = none := by
    have := (at_num (k := k) Nat.one_pos nk.2).1
    rw [nk.1] at this
    exact this (by unfold numOf at nm; omega)
  have lz : xs.length = ts.length := by rw [← nk.1, List.length_map]
  refine wpAny_setItem_heap (knd := keyKind prg w) (s := { s with heap := h3, toks := tk3 }) (by show A.units + 1 + 8 < cLine; omega) ka dx (fun h4 d4 hs4 => ?_) (by rw [lz]; exact Nat.le_trans sz (by decide))
  rw [storedH_new none] at d4
  have m4 : Mv [d] h3 h4 := Mv.one hs4 (by obtain ⟨o, _, _, e, _⟩ := d4; rw [e]; exact fun z => nomatch z)
  have qB : ∀ b ∈ [d], b ∈ V ++ H := fun b hb => by rw [List.mem_singleton.mp hb]; exact List.mem_append_left _ dV
  refine kk h4 ((F.up xe).move m4 fun b hb => by rw [List.mem_singleton.mp hb]; exact ⟨dW, df, d0⟩) ⟨nH, _, d4, ⟨?_, fun i x hx => ?_⟩, fun x hx => ?_⟩ (xe.mv.trans m4) _ Q E rfl kn kr
  · rw [List.map_append, nk.1]; rfl
  · by_cases hlt : i < xs.length
    · rw [List.getElem?_append_left hlt] at hx
      exact nk.2 i x hx
    · rw [List.getElem?_append_right (by omega)] at hx
      have : i = xs.length := by
        cases q : i - xs.length with
        | zero => omega
        | succ m => rw [q] at hx; cases hx
      subst this
      rw [Nat.sub_self] at hx
      cases hx
      exact ⟨tv, by show Value.int _ _ = _; rw [lz]; rfl⟩
  · rcases List.mem_append.mp hx with hx | hx
    · exact (rk x hx).to (To.mv m4 qB)
    · rw [List.mem_singleton.mp hx]
      exact (r3.less s1).to (To.mv m4 qB)
noncomputable abbrev eM (L : Addr) : Env := envOfC (S "Bank.make") (dScope (mem 10 19)) L 237 (.ref 236)
theorem make0_fn {m : Nat} {k : Key} (g : Gd w mg mb hb) (hk : PyData.strOk k.1 = true) (sz : st.ts.length < 1000) : Mk0 w m hb 1 H a st (st.made k) 237 [.obj a.b, .str k.1, .tup (k.2.1.map .int), .int k.2.2.1, .int k.2.2.2] (.int (st.numM k)) := fun A h vs hm e bk hV hdm rd => by
  refine Mx.enter (ps := [S "self", S "op", S "args", S "sort", S "data"]) g e hm hdm rd lk237 (by kernel_rfl) (args5 fun _ _ _ _ _ => rfl) rfl (fun n => rfl) (by decide) rfl rfl rfl (fun L A' h1 r F x1 fr => ?_)
  conv => arg 7; whnf
  refine Xs.hide fun PN PR kn kr => ?_
  have hE : ∀ b ∈ frA (eM L), b ∉ a.V ++ H := fun b hb z => hdm b z (fr b hb)
  have s1 : ∀ b ∈ a.V ++ (frA (eM L) ++ H), b ∈ frA (eM L) ++ (a.V ++ H) := fun b hb => by
    simp only [List.mem_append] at hb ⊢; rcases hb with z | z | z <;> simp [z]
  have s2 : ∀ b ∈ frA (eM L) ++ (a.V ++ H), b ∈ a.V ++ (frA (eM L) ++ H) := fun b hb => by
    simp only [List.mem_append] at hb ⊢; rcases hb with z | z | z <;> simp [z]
  have s3 : ∀ b ∈ frA (eM L) ++ H, b ∈ frA (eM L) ++ (a.V ++ H) := fun b hb => by
    simp only [List.mem_append] at hb ⊢; rcases hb with z | z <;> simp [z]
  have vW : ∀ x ∈ a.V, x ∈ frA (eM L) ++ (a.V ++ H) ∧ x ∉ frA (eM L) ∧ hb.get? x = none := fun x hx =>
    ⟨List.mem_append_right _ (List.mem_append_left _ hx), fun z => hE x z (List.mem_append_left _ hx), hV x hx⟩
  have bk1 := bk.in_ x1 (W := frA (eM L) ++ H) (fun b hb => (List.mem_append.mp hb).elim (fun z => .inr (fr b z)) .inl)
  have mvF : ∀ {p q : Heap}, Mv (frA (eM L)) p q → To2 a.V (frA (eM L) ++ H) p (frA (eM L) ++ H) q := fun m => To2.mv m fun b hb => List.mem_append_left _ hb
  generalize hH : frA (eM L) ++ H = H' at *
  generalize hW : frA (eM L) ++ (a.V ++ H) = W at *
  refine Xs.asg (d := k.d) F (Ev.tup F.dm (.cons F.var (.cons F.var (.cons F.var (.cons F.var .nil rfl) rfl) rfl) rfl)) fun h2 m2 F2 => ?_
  have bk2 := bk1.to (mvF m2)
  have g2 := g.ext F2.ext
  refine Xs.asg (d := .int (numOf st.ts k)) F2 (Ev.intAny (H := H') (Ev.numGet r (Ev.attr g2 (F2.var.less s3) bk2.ob.ob rfl (d := .obj a.nu) rfl (by kernel_rfl)) bk2.num bk2.ok hk bk2.sys (F2.var.less s3) Ev.int)) fun h3 m3 F3 => ?_
  have bk3 := bk2.to (mvF m3)
  have F3 := F3.pick (vs := [(S "found", .int (numOf st.ts k)), (S "key", k.d), (S "self", .obj a.b), (S "op", .str k.1), (S "args", .tup (k.2.1.map .int)), (S "sort", .int k.2.2.1), (S "data", .int k.2.2.2)]) ⟨rfl, rfl, rfl, rfl, rfl, rfl, rfl, trivial⟩
  have M3 := m2.trans m3
  refine Xs.ite (PN' := fun h' => Fm hb W (eM L) [(S "found", .int (st.numM k)), (S "self", .obj a.b)] h' ∧ Bk0 w m H' a (st.made k) h' ∧ Mv (frA (eM L) ++ a.V) h1 h') (Et.cmp F3.var Ev.int Cm.eqI) (fun h4 x4 => ?_) (fun h5 ⟨F5, b5, M5⟩ => ?_)
  · have F4 := F3.up x4
    have bk4 := bk3.ext x4
    have g4 := g.ext F4.ext
    by_cases z : numOf st.ts k = 0
    · rw [if_pos (by rw [z]; rfl)]
      have em : st.made k = { st with ts := st.ts ++ [k] } := if_pos z
      have en : st.numM k = st.ts.length + 1 := if_pos z
      have lo : (opsD st.ts).length = st.ts.length + 1 := by simp [opsD]
      have la : (argsD st.ts).length = st.ts.length + 1 := by simp [argsD]
      have ls : (sortsD st.ts).length = st.ts.length + 1 := by simp [sortsD]
      have ld : (datasD st.ts).length = st.ts.length + 1 := by simp [datasD]
      refine Xs.asg (d := .int (st.ts.length + 1)) F4 (Ev.cast (Ev.intAny (H := H') (Ev.lenL g4 (nmB g4 (by kernel_rfl) (by kernel_rfl)) (by rw [lo]; omega) (Ev.attr g4 (F4.var.less s3) bk4.ob.ob rfl bk4.ops.rd (by kernel_rfl)) _)) (by rw [lo]; rfl)) fun h5 m5 F5 => ?_
      have bk5 := bk4.to (mvF m5)
      have F5 := F5.pick (vs := [(S "found", .int (st.ts.length + 1)), (S "key", k.d), (S "self", .obj a.b), (S "op", .str k.1), (S "args", .tup (k.2.1.map .int)), (S "sort", .int k.2.2.1), (S "data", .int k.2.2.2)]) ⟨rfl, rfl, rfl, rfl, rfl, rfl, rfl, trivial⟩
      have nd := bk.nd
      have i1 : a.to ∈ a.V := List.mem_of_getElem? (i := 0) rfl
      have i2 : a.ta ∈ a.V := List.mem_of_getElem? (i := 1) rfl
      have i3 : a.ts ∈ a.V := List.mem_of_getElem? (i := 2) rfl
      have i4 : a.td ∈ a.V := List.mem_of_getElem? (i := 3) rfl
      have i5 : a.nu ∈ a.V := List.mem_of_getElem? (i := 4) rfl
      have b5 := bk5.five
      have q5 := bk5.lone
      have g5 := g.ext F5.ext
      have ok := bk5.ok
      refine Xs.append F5 (b5.ops.ol s1 s2) (vW _ i1).1 (vW _ i1).2.1 (vW _ i1).2.2 (Ev.attr g5 F5.var q5.ob.ob rfl (d := .obj a.to) rfl (by kernel_rfl)) F5.var (by rw [lo]; omega) fun h6 F6 l6 m6 => ?_
      have q6 := q5.move m6 i1 (nd_ne nd (i := 5) (j := 0) rfl rfl (by decide)) (nd_ne nd (i := 6) (j := 0) rfl rfl (by decide)) (nd_ne nd (i := 7) (j := 0) rfl rfl (by decide)) (nd_ne nd (i := 8) (j := 0) rfl rfl (by decide)) (nd_ne nd (i := 9) (j := 0) rfl rfl (by decide))
      have b6 : Bk5 w H' a (opsD st.ts ++ [.str k.1]) (argsD st.ts) (sortsD st.ts) (datasD st.ts) st.ts h6 := ⟨l6.pl b5.ops.1 s1, b5.args.move m6 (nd_ne nd (i := 1) (j := 0) rfl rfl (by decide)) i1, b5.sorts.move m6 (nd_ne nd (i := 2) (j := 0) rfl rfl (by decide)) i1, b5.datas.move m6 (nd_ne nd (i := 3) (j := 0) rfl rfl (by decide)) i1, b5.num.move m6 (nd_ne nd (i := 4) (j := 0) rfl rfl (by decide)) i1 ok⟩
      have g6 := g.ext F6.ext
      refine Xs.append F6 (b6.args.ol s1 s2) (vW _ i2).1 (vW _ i2).2.1 (vW _ i2).2.2 (Ev.attr g6 F6.var q6.ob.ob rfl (d := .obj a.ta) rfl (by kernel_rfl)) F6.var (by rw [la]; omega) fun h7 F7 l7 m7 => ?_
      have q7 := q6.move m7 i2 (nd_ne nd (i := 5) (j := 1) rfl rfl (by decide)) (nd_ne nd (i := 6) (j := 1) rfl rfl (by decide)) (nd_ne nd (i := 7) (j := 1) rfl rfl (by decide)) (nd_ne nd (i := 8) (j := 1) rfl rfl (by decide)) (nd_ne nd (i := 9) (j := 1) rfl rfl (by decide))
      have b7 : Bk5 w H' a (opsD st.ts ++ [.str k.1]) (argsD st.ts ++ [.tup (k.2.1.map .int)]) (sortsD st.ts) (datasD st.ts) st.ts h7 := ⟨b6.ops.move m7 (nd_ne nd (i := 0) (j := 1) rfl rfl (by decide)) i2, l7.pl b6.args.1 s1, b6.sorts.move m7 (nd_ne nd (i := 2) (j := 1) rfl rfl (by decide)) i2, b6.datas.move m7 (nd_ne nd (i := 3) (j := 1) rfl rfl (by decide)) i2, b6.num.move m7 (nd_ne nd (i := 4) (j := 1) rfl rfl (by decide)) i2 ok⟩
      have g7 := g.ext F7.ext
      refine Xs.append F7 (b7.sorts.ol s1 s2) (vW _ i3).1 (vW _ i3).2.1 (vW _ i3).2.2 (Ev.attr g7 F7.var q7.ob.ob rfl (d := .obj a.ts) rfl (by kernel_rfl)) F7.var (by rw [ls]; omega) fun h8 F8 l8 m8 => ?_
      have q8 := q7.move m8 i3 (nd_ne nd (i := 5) (j := 2) rfl rfl (by decide)) (nd_ne nd (i := 6) (j := 2) rfl rfl (by decide)) (nd_ne nd (i := 7) (j := 2) rfl rfl (by decide)) (nd_ne nd (i := 8) (j := 2) rfl rfl (by decide)) (nd_ne nd (i := 9) (j := 2) rfl rfl (by decide))
      have b8 : Bk5 w H' a (opsD st.ts ++ [.str k.1]) (argsD st.ts ++ [.tup (k.2.1.map .int)]) (sortsD st.ts ++ [.int k.2.2.1]) (datasD st.ts) st.ts h8 := ⟨b7.ops.move m8 (nd_ne nd (i := 0) (j := 2) rfl rfl (by decide)) i3, b7.args.move m8 (nd_ne nd (i := 1) (j := 2) rfl rfl (by decide)) i3, l8.pl b7.sorts.1 s1, b7.datas.move m8 (nd_ne nd (i := 3) (j := 2) rfl rfl (by decide)) i3, b7.num.move m8 (nd_ne nd (i := 4) (j := 2) rfl rfl (by decide)) i3 ok⟩
      have g8 := g.ext F8.ext
      refine Xs.append F8 (b8.datas.ol s1 s2) (vW _ i4).1 (vW _ i4).2.1 (vW _ i4).2.2 (Ev.attr g8 F8.var q8.ob.ob rfl (d := .obj a.td) rfl (by kernel_rfl)) F8.var (by rw [ld]; omega) fun h9 F9 l9 m9 => ?_
      have q9 := q8.move m9 i4 (nd_ne nd (i := 5) (j := 3) rfl rfl (by decide)) (nd_ne nd (i := 6) (j := 3) rfl rfl (by decide)) (nd_ne nd (i := 7) (j := 3) rfl rfl (by decide)) (nd_ne nd (i := 8) (j := 3) rfl rfl (by decide)) (nd_ne nd (i := 9) (j := 3) rfl rfl (by decide))
      have b9 : Bk5 w H' a (opsD st.ts ++ [.str k.1]) (argsD st.ts ++ [.tup (k.2.1.map .int)]) (sortsD st.ts ++ [.int k.2.2.1]) (datasD st.ts ++ [.int k.2.2.2]) st.ts h9 := ⟨b8.ops.move m9 (nd_ne nd (i := 0) (j := 3) rfl rfl (by decide)) i4, b8.args.move m9 (nd_ne nd (i := 1) (j := 3) rfl rfl (by decide)) i4, b8.sorts.move m9 (nd_ne nd (i := 2) (j := 3) rfl rfl (by decide)) i4, l9.pl b8.datas.1 s1, b8.num.move m9 (nd_ne nd (i := 4) (j := 3) rfl rfl (by decide)) i4 ok⟩
      have g9 := g.ext F9.ext
      refine Xs.setNum F9 r.u64 b9.num ok hk z (by omega) i5 (vW _ i5).1 (vW _ i5).2.1 (vW _ i5).2.2 s1 F9.var (Ev.attr g9 F9.var q9.ob.ob rfl (d := .obj a.nu) rfl (by kernel_rfl)) F9.var fun h10 F10 n10 m10 => ?_
      have q10 := q9.move m10 i5 (nd_ne nd (i := 5) (j := 4) rfl rfl (by decide)) (nd_ne nd (i := 6) (j := 4) rfl rfl (by decide)) (nd_ne nd (i := 7) (j := 4) rfl rfl (by decide)) (nd_ne nd (i := 8) (j := 4) rfl rfl (by decide)) (nd_ne nd (i := 9) (j := 4) rfl rfl (by decide))
      have b10 : Bk5 w H' a (opsD (st.ts ++ [k])) (argsD (st.ts ++ [k])) (sortsD (st.ts ++ [k])) (datasD (st.ts ++ [k])) (st.ts ++ [k]) h10 := by
        have e1 : opsD (st.ts ++ [k]) = opsD st.ts ++ [.str k.1] := by simp [opsD]
        have e2 : argsD (st.ts ++ [k]) = argsD st.ts ++ [.tup (k.2.1.map .int)] := by simp [argsD]
        have e3 : sortsD (st.ts ++ [k]) = sortsD st.ts ++ [.int k.2.2.1] := by simp [sortsD]
        have e4 : datasD (st.ts ++ [k]) = datasD st.ts ++ [.int k.2.2.2] := by simp [datasD]
        rw [e1, e2, e3, e4]
        exact ⟨b9.ops.move m10 (nd_ne nd (i := 0) (j := 4) rfl rfl (by decide)) i5, b9.args.move m10 (nd_ne nd (i := 1) (j := 4) rfl rfl (by decide)) i5, b9.sorts.move m10 (nd_ne nd (i := 2) (j := 4) rfl rfl (by decide)) i5, b9.datas.move m10 (nd_ne nd (i := 3) (j := 4) rfl rfl (by decide)) i5, n10⟩
      rw [em, en]
      have sm := bk.sm
      refine Xs.nil ⟨F10.pick ⟨rfl, rfl, trivial⟩, b10.join q10 (fun k' hk' => ?_) ⟨by simp; omega, sm.2.1, sm.2.2⟩ bk.nd bk.sys, ?_⟩
      · rcases List.mem_append.mp hk' with z | z
        · exact ok k' z
        · rw [List.mem_singleton.mp z]; exact hk
      · have sF : ∀ b ∈ frA (eM L), b ∈ frA (eM L) ++ a.V := fun b hb => List.mem_append_left _ hb
        have sV : ∀ x ∈ a.V, ∀ b ∈ [x], b ∈ frA (eM L) ++ a.V := fun x hx b hb => by rw [List.mem_singleton.mp hb]; exact List.mem_append_right _ hx
        exact (((((((M3.sub sF).trans x4.mv).trans (m5.sub sF)).trans (m6.sub (sV _ i1))).trans (m7.sub (sV _ i2))).trans (m8.sub (sV _ i3))).trans (m9.sub (sV _ i4))).trans (m10.sub (sV _ i5))
    · rw [if_neg (by simpa using z)]
      have em : st.made k = st := if_neg z
      have en : st.numM k = numOf st.ts k := if_neg z
      rw [em, en]
      exact Xs.nil ⟨F4.pick ⟨rfl, rfl, trivial⟩, bk4, (M3.sub fun b hb => List.mem_append_left _ hb).trans x4.mv⟩
  · refine Xs.retD (d := .int (st.numM k)) F5.var fun v h' x rr => kr _ _ ⟨?_, ?_, rr⟩
    · exact Mv.fresh (N := frA (eM L)) ((x1.mv.trans M5).trans x.mv) fr
    · exact (b5.ext x).to (To2.less fun b hb => by rw [← hH]; exact List.mem_append_right _ hb)
theorem make_fn {k : Key} (g : Gd w mg mb hb) (hk : PyData.strOk k.1 = true) (sz : st.ts.length < 1000) : Mk w hb 1 H a st (st.made k) 237 [.obj a.b, .str k.1, .tup (k.2.1.map .int), .int k.2.2.1, .int k.2.2.2] (.int (st.numM k)) := make0_fn g hk sz
theorem lk258 : (KF w.params).lookup 258 = some o258 := by kernel_rfl
theorem lk265 : (KF w.params).lookup 265 = some o265 := by kernel_rfl
theorem Ev.sortAt {e i : Expr} {ap pos : Pos} {t : Int} (g : Gd w mg mb h) (bk : Bk w H a st h) (x : Ev w A H env h e (.obj a.b)) (y : Ev w A H env h i (.int t)) (is : st.is t)
    (hs : eval (.Attribute e (S "term_sorts") ap) env = (do let o ← eval e env; standAt (Pos.atName ap); let r ← holding [o] (getAttr o (S "term_sorts") true); letTemporaryGo e o r; pure r) := by rfl)
    (hs2 : ∀ a t', subscripted i false (.ref a) (.int t t') = operate [.ref a, .int t t'] (getItem (.ref a) (.int t t')) := by intro _ _; rfl) : Ev w A H env h (.Subscript (.Attribute e (S "term_sorts") ap) i pos) (.int (st.sort t)) := by
  have sm := bk.sm.1
  have := is.1
  have := is.2
  exact Ev.itemL (Ev.attr g x bk.ob.ob rfl bk.sorts.rd (by kernel_rfl) rfl hs) y (by omega) (BS.sortsAt is) (by omega) hs2
theorem want_fn {t s : Int} {wh : Str} (g : Gd w mg mb h) (hdm : Dm H h) (bk : Bk w H a st h) (is : st.is t) (hs : st.sort t = s) : Fn w 1 H h 258 [.obj a.b, .int t, .int s, .str wh] .none := by
  refine Fn.enter (ps := [S "self", S "t", S "s", S "where"]) g hdm lk258 (by kernel_rfl) (args4 fun _ _ _ _ => rfl) rfl (fun n => rfl) (by decide) rfl rfl rfl (fun L A' W h0 h1 r e hH hW F => ?_)
  conv => arg 7; whnf
  have b1 := bk.in_ (e.trans F.ext) hW
  have g1 := g.ext (e.trans F.ext)
  refine Xs.iff (Et.cmp (Ev.sortAt g1 b1 F.var F.var is) F.var Cm.neI) (fun z h2 x2 => ?_) (fun z h2 x2 => ?_)
  · rw [hs] at z; simp at z
  · exact Xs.nil ⟨F.ext.trans x2, rfl⟩
theorem wantAll_fn {l : List Int} {s : Int} {wh : Str} {d : D} (g : Gd w mg mb h) (hdm : Dm H h) (bk : Bk w H a st h) (is : ∀ t ∈ l, st.is t ∧ st.sort t = s) (hd : d = .list (l.map .int) ∨ d = .tup (l.map .int)) : Fn w 2 H h 265 [.obj a.b, d, .int s, .str wh] .none := by
  refine Fn.enter (ps := [S "self", S "some", S "s", S "where"]) g hdm lk265 (by kernel_rfl) (args4 fun _ _ _ _ => rfl) rfl (fun n => rfl) (by decide) rfl rfl rfl (fun L A' W h0 h1 r e hH hW F => ?_)
  conv => arg 7; whnf
  have src : ∀ p, Src w A' W (envOfC (S "Bank.want_all") (dScope (mem 10 23)) L 265 (.ref 264)) h1 (.Name (S "some") p) (l.map .int) := by
    intro p
    rcases hd with rfl | rfl
    · exact Src.list r.hd F.var
    · exact Src.tup r.hd F.var
  refine Xx.forIn (B := fun d => [(S "t", d)]) (vs := fun i => [(S "self", .obj a.b), (S "some", d), (S "s", .int s), (S "where", .str wh)]) (oo := fun i => []) (Fx.of F) (src _) Tg.name ⟨rfl, rfl, rfl, rfl, trivial⟩ rfl (fun i => rfl) ?_ ?_
  · intro I i d' h3 nI hd' X3
    obtain ⟨hi, rfl⟩ := at_i hd'
    have e3 := e.trans X3.F.ext
    obtain ⟨is1, is2⟩ := is l[i] (List.getElem_mem hi)
    have b3 := bk.in_ e3 (new_cons hW ((e.trans F.ext).gone nI))
    refine Xs.exprM ((Ev.meth (g.ext e3) r X3.F.var b3.ob.ob (.cons X3.F.var (.cons X3.F.var (.cons X3.F.var .nil rfl) rfl) rfl) (want_fn (g.ext e3) X3.F.dm b3 is1 is2) rfl (by kernel_rfl)).mx.imp fun v h' p => p.1) fun h4 x4 => ?_
    exact Xs.nil (turn0 (X3.up x4) ⟨rfl, rfl, rfl, rfl, trivial⟩)
  · intro h3 X3
    exact Xs.nil ⟨X3.F.ext, rfl⟩
theorem callKM {pos : Pos} {f : Value} {first : List Value} {es : List Expr} {ds : List D} {R : Value → Heap → Prop} {s : Shared} {Q : Value → Shared → Prop} {E : Value → Shared → Prop} (g : Gd w mg mb h) (hk : keepIn (KF w.params) f = true) (a : Es w A H env h es ds)
    (c : ∀ vs h₁, Ext h h₁ → RdAll H h₁ ds vs → Mx w A h₁ (PySem.call f (first ++ vs)) R) (e : Ext h s.heap) (k : ∀ v h' tk, R v h' → Q v { s with heap := h', toks := tk }) : wpAny (model prg w) A (callWith pos f first (backTo pos (starEach es env)) []) Q E s := by
  refine callWith_of (P := fun h' => (KF w.params).In h') (by rw [a.plain]; rfl) (keeps_K hk) ?_
  cases a with
  | nil => exact evalArgs_nil3 ⟨g.X.keeps e, c [] s.heap e rfl s Q E rfl fun v h' tk r => k v h' tk r⟩
  | cons he r hs =>
    have go := (Es.cons he r hs).go (pos := pos)
    rw [hs] at go ⊢
    exact evalArgs_plain (go s _ E e fun vs h1 tk x1 r1 => ⟨g.X.keeps (e.trans x1), c vs h1 (e.trans x1) r1 _ Q E rfl fun v h2 tk2 p => k v h2 tk2 p⟩)
theorem Mx.meth {o : Expr} {name : Str} {apos pos : Pos} {es : List Expr} {ds : List D} {x C f : Addr} {af : Str → Option Value} {R : Value → Heap → Prop} (g : Gd w mg mb h) (he : Ev w A H env h o (.obj x)) (ob : Ob h x C af) (as : Es w A H env h es ds)
    (c : ∀ vs h₁, Ext h h₁ → RdAll H h₁ (.obj x :: ds) vs → Mx w A h₁ (PySem.call (.ref f) vs) R) (ha : af name = none) (hk : methOk (KF w.params) C name f = true) {pl : Sem Bool}
    (hs : eval (.Call (.Attribute o name apos) es [] pos) env = (do let ov ← eval o env; standAt (Pos.atName apos); let (f, first) ← holding [ov] (getMethod ov name pl); callWith pos f first (backTo pos (starEach es env)) []) := by rfl) : Mx w A h (eval (.Call (.Attribute o name apos) es [] pos) env) R := fun s Q E e k => by
  subst e
  refine MethodCall_ (pl := pl) (he s _ E (Ext.refl _) fun u h1 tk x1 r => ?_) hs
  cases r
  refine Gm.fn g ob ha hk _ _ E x1 fun u h2 tk2 x2 q => ?_
  subst q
  have hf : keepIn (KF w.params) (.ref f) = true := by
    unfold methOk at hk
    exact (Bool.and_eq_true_iff.mp (Bool.and_eq_true_iff.mp (Bool.and_eq_true_iff.mp hk).2).2).2
  exact callKM g hf as (fun vs h3 e3 r3 => c (.ref x :: vs) h3 e3 ⟨_, vs, rfl, rfl, r3⟩) (x1.trans x2) k
theorem Mx.call {f : Expr} {a : Addr} {pos : Pos} {es : List Expr} {ds : List D} {R : Value → Heap → Prop} (g : Gd w mg mb h) (he : Ev w A H env h f (.obj a)) (hk : keepIn (KF w.params) (.ref a) = true) (as : Es w A H env h es ds)
    (c : ∀ vs h₁, Ext h h₁ → RdAll H h₁ ds vs → Mx w A h₁ (PySem.call (.ref a) vs) R)
    (hs : eval (.Call f es [] pos) env = (do let __do_lift ← eval f env; callWith pos __do_lift [] (backTo pos (starEach es env)) (backToKw pos (keywordEach [] env))) := by rfl) : Mx w A h (eval (.Call f es [] pos) env) R := fun s Q E e k => by
  subst e
  exact Call_ (he s _ E (Ext.refl _) fun u h1 tk x1 r => by
    cases r
    exact callKM (first := []) g hk as (fun vs h3 e3 r3 => c vs h3 e3 r3) x1 k) hs
structure Sets (hb : Heap) (V F H W : List Addr) : Prop where
  s1 : ∀ b ∈ V ++ H, b ∈ W
  s2 : ∀ b ∈ W, b ∈ V ++ H
  sF : ∀ b ∈ F, b ∈ H
  vF : ∀ x ∈ V, x ∉ F
  v0 : ∀ x ∈ V, hb.get? x = none
theorem Sets.vW {F : List Addr} (s : Sets hb V F H W) : ∀ x ∈ V, x ∈ W ∧ x ∉ F ∧ hb.get? x = none := fun x hx => ⟨s.s1 x (List.mem_append_left _ hx), s.vF x hx, s.v0 x hx⟩
theorem Sets.s3 {F : List Addr} (s : Sets hb V F H W) : ∀ b ∈ H, b ∈ W := fun b hb => s.s1 b (List.mem_append_right _ hb)
theorem Mk.enter {f : Addr} {stm : Stmt} {nm qual : Str} {dV kV doc pm cdv ct oc : Value} {an od : Option Addr} {osl : Array (Option Value)} {k : Nat} {ps : List Str} {ds : List D} {d : D}
    (g : Gd w mg mb hb)
    (ho : (KF w.params).lookup f = some ⟨oc, od, fnD stm nm qual [] dV kV doc pm an cdv ct mainGlobals builtinsNs, osl⟩) (hcd : codeIn (KF w.params) cdv qual = true)
    (hbi : ∀ vs : List Value, vs.length = ps.length → bindArgs { name := nm, qualname := qual, params := dArgs stm, body := .stmts (dBody stm), scope := dScope stm, globals := mainGlobals, closure := [], defaults := dV, kwdefaults := kV, doc := doc, pyModule := pm, annotations := an, code := cdv, closureTuple := ct, builtins := builtinsNs } ⟨vs, []⟩ = pure (ps.zip vs))
    (hl : ps.length = ds.length)
    (hkind : ∀ n, kindsOk (dScope stm).names ps n = true) (hnd : ((cellsFrom 0 (dScope stm).names []).map (·.1)).Nodup)
    (hk : (dScope stm).kind = .function) (hco : (dScope stm).isCoroutine = false) (hgen : (dScope stm).isGenerator = false)
    (body : ∀ L A' H' W h1, Rm A' k → Sets hb a.V (frA (envOfC qual (dScope stm) L f cdv)) H' W → Bk w H' a st h1 → Fm hb W (envOfC qual (dScope stm) L f cdv) (ps.zip ds).reverse h1 →
      Xs w A' (envOfC qual (dScope stm) L f cdv) (fun h' => Mv (frA (envOfC qual (dScope stm) L f cdv) ++ a.V) h1 h' ∧ Bk w H' a st' h' ∧ Rd W h' d .none) (fun v h' => Mv (frA (envOfC qual (dScope stm) L f cdv) ++ a.V) h1 h' ∧ Bk w H' a st' h' ∧ Rd W h' d v) h1 (dBody stm)) :
    Mk w hb (k + 1) H a st st' f ds d := fun A h vs hm e bk hV hdm rd => by
  refine Mx.enter (ps := ps) g e hm hdm rd ho hcd hbi hl hkind hnd hk hco hgen (fun L A' h1 r F x1 fr => ?_)
  have se : Sets hb a.V (frA (envOfC qual (dScope stm) L f cdv)) (frA (envOfC qual (dScope stm) L f cdv) ++ H) (frA (envOfC qual (dScope stm) L f cdv) ++ (a.V ++ H)) :=
    ⟨fun b hb => by simp only [List.mem_append] at hb ⊢; rcases hb with z | z | z <;> simp [z], fun b hb => by simp only [List.mem_append] at hb ⊢; rcases hb with z | z | z <;> simp [z], fun b hb => List.mem_append_left _ hb,
      fun x hx z => hdm x (List.mem_append_left _ hx) (fr x z), hV⟩
  have bk1 := bk.in_ x1 (W := frA (envOfC qual (dScope stm) L f cdv) ++ H) (fun b hb => (List.mem_append.mp hb).elim (fun z => .inr (fr b z)) .inl)
  have fin : ∀ v h', (Mv (frA (envOfC qual (dScope stm) L f cdv) ++ a.V) h1 h' ∧ Bk w (frA (envOfC qual (dScope stm) L f cdv) ++ H) a st' h' ∧ Rd (frA (envOfC qual (dScope stm) L f cdv) ++ (a.V ++ H)) h' d v) → (Mv a.V h h' ∧ Bk w H a st' h' ∧ Rd (a.V ++ H) h' d v) := fun v h' ⟨m, b, rr⟩ =>
    ⟨Mv.fresh (x1.mv.trans m) fr, b.to (To2.less fun b hb => List.mem_append_right _ hb), rr.less fun b hb => List.mem_append_right _ hb⟩
  intro s Q E he kn kr
  exact body L A' _ _ h1 r se bk1 F s Q E he (fun h' tk p => kn h' tk (fin _ _ p)) (fun v h' tk p => kr v h' tk (fin _ _ p))
theorem lk349' : (KF w.params).lookup 349 = some o349 := by kernel_rfl
theorem lk342' : (KF w.params).lookup 342 = some o342 := by kernel_rfl
theorem xor_fn {x y : Int} (g : Gd w mg mb hb) (sz : st.ts.length < 1000) (ix : st.is x ∧ st.sort x = 0) (iy : st.is y ∧ st.sort y = 0) : Mk w hb 3 H a st (st.made (S "xor", [x, y], 0, 0)) 342 [.obj a.b, .int x, .int y] (.int (st.numM (S "xor", [x, y], 0, 0))) := by
  refine Mk.enter (ps := [S "self", S "a", S "b"]) g lk342' (by kernel_rfl) (args3 fun _ _ _ => rfl) rfl (fun n => rfl) (by decide) rfl rfl rfl (fun L A' H' W h1 r se bk F => ?_)
  conv => arg 7; whnf
  have g1 := g.ext F.ext
  have fD : Dm H' h1 := fun b hb => F.dm b (se.s3 b hb)
  refine Xs.exprM ((Ev.meth (H := H') g1 r (F.var.less se.s3) bk.ob.ob (.cons (Ev.tup fD (.cons (F.var.less se.s3) (.cons (F.var.less se.s3) .nil rfl) rfl)) (.cons (Ev.BOOL g1) (.cons Ev.str .nil rfl) rfl) rfl) (wantAll_fn (l := [x, y]) g1 fD bk (fun t ht => by
    simp only [List.mem_cons, List.not_mem_nil, or_false] at ht
    rcases ht with rfl | rfl
    · exact ix
    · exact iy) (.inr rfl)) rfl (by kernel_rfl)).mx.imp fun v h' p => p.1) fun h2 x2 => ?_
  have F2 := F.up x2
  have bk2 := bk.ext x2
  have g2 := g1.ext x2
  refine Xs.ret ((Mx.meth g2 F2.var bk2.ob.ob (.cons Ev.str (.cons (Ev.tup F2.dm (.cons F2.var (.cons F2.var .nil rfl) rfl)) (.cons (Ev.BOOL g2) (.cons Ev.int .nil rfl) rfl) rfl) rfl) (fun vs h3 x3 rd => (make_fn (k := (S "xor", [x, y], 0, 0)) g (by kernel_rfl) sz A' h3 vs (r.le (by decide)) (F2.ext.trans x3) (bk2.ext x3) se.v0 (fun b hb => (F2.dm.ext x3) b (se.s1 b hb)) (rd.to (To.less se.s1))).imp fun v h' p => ⟨x3.mv.trans p.1, p.2⟩) rfl (by kernel_rfl) (R := fun v h' => Mv a.V h2 h' ∧ Bk w H' a (st.made (S "xor", [x, y], 0, 0)) h' ∧ Rd (a.V ++ H') h' (.int (st.numM (S "xor", [x, y], 0, 0))) v)).imp fun v h' p => ⟨(x2.mv.trans p.1).sub fun b hb => List.mem_append_right _ hb, p.2.1, p.2.2.less se.s2⟩)
theorem implies_fn {x y : Int} (g : Gd w mg mb hb) (sz : st.ts.length < 1000) (ix : st.is x ∧ st.sort x = 0) (iy : st.is y ∧ st.sort y = 0) : Mk w hb 3 H a st (st.made (S "=>", [x, y], 0, 0)) 349 [.obj a.b, .int x, .int y] (.int (st.numM (S "=>", [x, y], 0, 0))) := by
  refine Mk.enter (ps := [S "self", S "a", S "b"]) g lk349' (by kernel_rfl) (args3 fun _ _ _ => rfl) rfl (fun n => rfl) (by decide) rfl rfl rfl (fun L A' H' W h1 r se bk F => ?_)
  conv => arg 7; whnf
  have g1 := g.ext F.ext
  have fD : Dm H' h1 := fun b hb => F.dm b (se.s3 b hb)
  refine Xs.exprM ((Ev.meth (H := H') g1 r (F.var.less se.s3) bk.ob.ob (.cons (Ev.tup fD (.cons (F.var.less se.s3) (.cons (F.var.less se.s3) .nil rfl) rfl)) (.cons (Ev.BOOL g1) (.cons Ev.str .nil rfl) rfl) rfl) (wantAll_fn (l := [x, y]) g1 fD bk (fun t ht => by
    simp only [List.mem_cons, List.not_mem_nil, or_false] at ht
    rcases ht with rfl | rfl
    · exact ix
    · exact iy) (.inr rfl)) rfl (by kernel_rfl)).mx.imp fun v h' p => p.1) fun h2 x2 => ?_
  have F2 := F.up x2
  have bk2 := bk.ext x2
  have g2 := g1.ext x2
  refine Xs.ret ((Mx.meth g2 F2.var bk2.ob.ob (.cons Ev.str (.cons (Ev.tup F2.dm (.cons F2.var (.cons F2.var .nil rfl) rfl)) (.cons (Ev.BOOL g2) (.cons Ev.int .nil rfl) rfl) rfl) rfl) (fun vs h3 x3 rd => (make_fn (k := (S "=>", [x, y], 0, 0)) g (by kernel_rfl) sz A' h3 vs (r.le (by decide)) (F2.ext.trans x3) (bk2.ext x3) se.v0 (fun b hb => (F2.dm.ext x3) b (se.s1 b hb)) (rd.to (To.less se.s1))).imp fun v h' p => ⟨x3.mv.trans p.1, p.2⟩) rfl (by kernel_rfl) (R := fun v h' => Mv a.V h2 h' ∧ Bk w H' a (st.made (S "=>", [x, y], 0, 0)) h' ∧ Rd (a.V ++ H') h' (.int (st.numM (S "=>", [x, y], 0, 0))) v)).imp fun v h' p => ⟨(x2.mv.trans p.1).sub fun b hb => List.mem_append_right _ hb, p.2.1, p.2.2.less se.s2⟩)
theorem Ev.tupleOf {e : Expr} {np pos : Pos} {ds : List D} (g : Gd w mg mb h) (hd : Dm H h) (m : Ev w A H env h e (.list ds)) (hz : ds.length ≤ 1000)
    (q : nsIn (KF w.params) mainGlobals (S "tuple") = some none := by kernel_rfl) (hbt : bootBuiltins (S "tuple") = some (.type "tuple") := by kernel_rfl) (hst : starEach [e] env = (false, eval e env) :: starEach [] env := by rfl)
    (hg : env.globals = mainGlobals := by rfl) (hbb : env.builtins = builtinsNs := by rfl) (hk : env.scope.kind = .function := by rfl) (hl : env.kindOf (S "tuple") = some .globalImplicit := by rfl)
    (hs : eval (.Call (.Name (S "tuple") np) [e] [] pos) env = (do let __do_lift ← eval (.Name (S "tuple") np) env; callWith pos __do_lift [] (backTo pos (starEach [e] env)) (backToKw pos (keywordEach [] env))) := by rfl) :
    Ev w A H env h (.Call (.Name (S "tuple") np) [e] [] pos) (.tup ds) :=
  Ev.callT ((nmT g q hbt (by decide) hg hbb hk hl (by decide)) np) (.cons m .nil hst) (fun vs h₁ e1 r s Q E x k => by
    obtain ⟨v, rfl, l, us, rfl, nl, il, ru⟩ := one r
    have il := il.at fun o q => x _ _ q
    have ru := ru.ext x
    have hd' := (hd.ext e1).ext x
    have hz' : us.toArray.size ≤ sizeLine := by rw [List.size_toArray, ru.length]; exact Nat.le_trans hz (by decide)
    refine call_tuple_list il (fun h' x' => ?_) hz'
    have x' : Ext s.heap h' := x'
    exact k _ _ _ (x'.trans (Ext.push _ _)) (Rd.newTup (hd'.ext x') (ru.ext x'))) hs
theorem Ev.listOf {e : Expr} {np pos : Pos} {ds : List D} (g : Gd w mg mb h) (hd : Dm H h) (m : Ev w A H env h e (.list ds)) (hz : ds.length ≤ 1000)
    (q : nsIn (KF w.params) mainGlobals (S "list") = some none := by kernel_rfl) (hbt : bootBuiltins (S "list") = some (.type "list") := by kernel_rfl) (hst : starEach [e] env = (false, eval e env) :: starEach [] env := by rfl)
    (hg : env.globals = mainGlobals := by rfl) (hbb : env.builtins = builtinsNs := by rfl) (hk : env.scope.kind = .function := by rfl) (hl : env.kindOf (S "list") = some .globalImplicit := by rfl)
    (hs : eval (.Call (.Name (S "list") np) [e] [] pos) env = (do let __do_lift ← eval (.Name (S "list") np) env; callWith pos __do_lift [] (backTo pos (starEach [e] env)) (backToKw pos (keywordEach [] env))) := by rfl) :
    Ev w A H env h (.Call (.Name (S "list") np) [e] [] pos) (.list ds) :=
  Ev.callT ((nmT g q hbt (by decide) hg hbb hk hl (by decide)) np) (.cons m .nil hst) (fun vs h₁ e1 r s Q E x k => by
    obtain ⟨v, rfl, l, us, rfl, nl, il, ru⟩ := one r
    obtain ⟨o, ho, hc, n, hdt⟩ := il.at fun o q => x _ _ q
    have ru := ru.ext x
    have hd' := (hd.ext e1).ext x
    refine call_list_seq l (T := "list") (.inl rfl) ho hc hdt (fun h' c' x' e' => ?_) (by rw [List.size_toArray, ru.length]; exact Nat.le_trans hz (by decide))
    have x' : Ext s.heap h' := x'
    exact k _ _ _ x' ⟨_, us, rfl, hd'.new, ⟨_, e', rfl, _, rfl⟩, ru.ext x'⟩) hs
theorem Mx.iteF {t x y : Expr} {pos : Pos} {R : Value → Heap → Prop} (ht : Et w A env h t false) (m : ∀ h1, Ext h h1 → Mx w A h1 (eval y env) R) : Mx w A h (eval (.IfExp t x y pos) env) R := fun s Q E e k => by
  subst e
  exact IfExp_ (ht s _ E (Ext.refl _) fun v h1 tk x1 r => by subst r; rw [if_neg (by decide)]; exact m h1 x1 _ Q E rfl fun v h' tk' p => k v h' tk' p)
theorem Mx.make {k : Key} {F0 : List Addr} {j : Nat} {o : Expr} {ap pos : Pos} {es : List Expr} (g : Gd w mg mb hb) (se : Sets hb a.V F0 H W) (F : Fm hb W env vars h) (bk : Bk w H a st h) (r : Rm A (j + 1)) (hk : PyData.strOk k.1 = true) (sz : st.ts.length < 1000)
    (ho : Ev w A W env h o (.obj a.b)) (as : Es w A W env h es [.str k.1, .tup (k.2.1.map .int), .int k.2.2.1, .int k.2.2.2]) {pl : Sem Bool}
    (hs : eval (.Call (.Attribute o (S "make") ap) es [] pos) env = (do let ov ← eval o env; standAt (Pos.atName ap); let (f, first) ← holding [ov] (getMethod ov (S "make") pl); callWith pos f first (backTo pos (starEach es env)) []) := by rfl) :
    Mx w A h (eval (.Call (.Attribute o (S "make") ap) es [] pos) env) (fun v h' => Mv a.V h h' ∧ Bk w H a (st.made k) h' ∧ Rd W h' (.int (st.numM k)) v) :=
  Mx.meth (g.ext F.ext) ho bk.ob.ob as (fun vs h3 x3 rd => (make_fn (k := k) g hk sz A h3 vs (r.le (by omega)) (F.ext.trans x3) (bk.ext x3) se.v0 (fun b hb => (F.dm.ext x3) b (se.s1 b hb)) (rd.to (To.less se.s1))).imp fun v h' p => ⟨x3.mv.trans p.1, p.2.1, p.2.2⟩) rfl (by kernel_rfl) hs
theorem Ev.opAt {e i : Expr} {ap pos : Pos} {t : Int} (g : Gd w mg mb h) (bk : Bk w H a st h) (x : Ev w A H env h e (.obj a.b)) (y : Ev w A H env h i (.int t)) (is : st.is t)
    (hs : eval (.Attribute e (S "term_ops") ap) env = (do let o ← eval e env; standAt (Pos.atName ap); let r ← holding [o] (getAttr o (S "term_ops") true); letTemporaryGo e o r; pure r) := by rfl)
    (hs2 : ∀ a t', subscripted i false (.ref a) (.int t t') = operate [.ref a, .int t t'] (getItem (.ref a) (.int t t')) := by intro _ _; rfl) : Ev w A H env h (.Subscript (.Attribute e (S "term_ops") ap) i pos) (.str (st.op t)) := by
  have sm := bk.sm.1
  have := is.1
  have := is.2
  exact Ev.itemL (Ev.attr g x bk.ob.ob rfl bk.ops.rd (by kernel_rfl) rfl hs) y (by omega) (BS.opsAt is) (by omega) hs2
theorem lk321' : (KF w.params).lookup 321 = some o321 := by kernel_rfl
theorem lk328 : (KF w.params).lookup 328 = some o328 := by kernel_rfl
theorem lk335 : (KF w.params).lookup 335 = some o335 := by kernel_rfl
theorem lk363 : (KF w.params).lookup 363 = some o363 := by kernel_rfl
theorem lk370 : (KF w.params).lookup 370 = some o370 := by kernel_rfl
theorem lk377 : (KF w.params).lookup 377 = some o377 := by kernel_rfl
theorem not_fn {t : Int} (g : Gd w mg mb hb) (sz : st.ts.length < 1000) (it : st.is t ∧ st.sort t = 0) (n0 : st.op t ≠ S "not") (n1 : t ≠ 1) (n2 : t ≠ 2) : Mk w hb 3 H a st (st.made (S "not", [t], 0, 0)) 321 [.obj a.b, .int t] (.int (st.numM (S "not", [t], 0, 0))) := by
  refine Mk.enter (ps := [S "self", S "t"]) g lk321' (by kernel_rfl) (args2 fun _ _ => rfl) rfl (fun n => rfl) (by decide) rfl rfl rfl (fun L A' H' W h1 r se bk F => ?_)
  conv => arg 7; whnf
  have g1 := g.ext F.ext
  have fD : Dm H' h1 := fun b hb => F.dm b (se.s3 b hb)
  refine Xs.exprM ((Ev.meth (H := H') g1 r (F.var.less se.s3) bk.ob.ob (.cons (F.var.less se.s3) (.cons (Ev.BOOL g1) (.cons Ev.str .nil rfl) rfl) rfl) ((want_fn g1 fD bk it.1 it.2).le (by decide)) rfl (by kernel_rfl)).mx.imp fun v h' p => p.1) fun h2 x2 => ?_
  have F2 := F.up x2
  have bk2 := bk.ext x2
  have g2 := g1.ext x2
  refine Xs.iff (Et.cmp (H := H') (Ev.opAt g2 bk2 (F2.var.less se.s3) (F2.var.less se.s3) it.1) Ev.str Cm.eqS) (fun z h3 x3 => absurd (beq_iff_eq.mp z) n0) (fun z h3 x3 => ?_)
  have F3 := F2.up x3
  have bk3 := bk2.ext x3
  have g3 := g2.ext x3
  refine Xs.iff (Et.cmp (H := H') (F3.var.less se.s3) (Ev.attr g3 (F3.var.less se.s3) bk3.ob.ob rfl (d := .int 1) Rd.int (by kernel_rfl)) Cm.eqI) (fun z h4 x4 => absurd (beq_iff_eq.mp z) n1) (fun z h4 x4 => ?_)
  have F4 := F3.up x4
  have bk4 := bk3.ext x4
  have g4 := g3.ext x4
  refine Xs.iff (Et.cmp (H := H') (F4.var.less se.s3) (Ev.attr g4 (F4.var.less se.s3) bk4.ob.ob rfl (d := .int 2) Rd.int (by kernel_rfl)) Cm.eqI) (fun z h5 x5 => absurd (beq_iff_eq.mp z) n2) (fun z h5 x5 => ?_)
  have F5 := F4.up x5
  have bk5 := bk4.ext x5
  have g5 := g4.ext x5
  refine Xs.ret ((Mx.make (k := (S "not", [t], 0, 0)) g se F5 bk5 r (by kernel_rfl) sz F5.var (.cons Ev.str (.cons (Ev.tup F5.dm (.cons F5.var .nil rfl)) (.cons (Ev.BOOL g5) (.cons Ev.int .nil rfl) rfl) rfl) rfl)).imp fun v h' p => ⟨((x2.trans (x3.trans (x4.trans x5))).mv.trans p.1).sub fun b hb => List.mem_append_right _ hb, p.2.1, p.2.2⟩)
theorem and_fn {l : List Int} (g : Gd w mg mb hb) (sz : st.ts.length < 1000) (is : ∀ t ∈ l, st.is t ∧ st.sort t = 0) (l2 : 2 ≤ l.length) (lz : l.length ≤ 1000) : Mk w hb 3 H a st (st.made (S "and", l, 0, 0)) 328 [.obj a.b, .list (l.map .int)] (.int (st.numM (S "and", l, 0, 0))) := by
  refine Mk.enter (ps := [S "self", S "some"]) g lk328 (by kernel_rfl) (args2 fun _ _ => rfl) rfl (fun n => rfl) (by decide) rfl rfl rfl (fun L A' H' W h1 r se bk F => ?_)
  conv => arg 7; whnf
  have g1 := g.ext F.ext
  have fD : Dm H' h1 := fun b hb => F.dm b (se.s3 b hb)
  refine Xs.exprM ((Ev.meth (H := H') g1 r (F.var.less se.s3) bk.ob.ob (.cons (F.var.less se.s3) (.cons (Ev.BOOL g1) (.cons Ev.str .nil rfl) rfl) rfl) (wantAll_fn (l := l) g1 fD bk is (.inl rfl)) rfl (by kernel_rfl)).mx.imp fun v h' p => p.1) fun h2 x2 => ?_
  have F2 := F.up x2
  have bk2 := bk.ext x2
  have g2 := g1.ext x2
  refine Xs.iff (Et.cmp (H := W) (Ev.lenL (ds := l.map D.int) g2 (nmB g2 (by kernel_rfl) (by kernel_rfl)) (by rw [List.length_map]; omega) F2.var _) Ev.int Cm.eqI) (fun z h3 x3 => absurd (beq_iff_eq.mp z) (by rw [List.length_map]; omega)) (fun z h3 x3 => ?_)
  have F3 := F2.up x3
  have g3 := g2.ext x3
  refine Xs.ret (Mx.iteF ((Et.cmp (H := W) (Ev.lenL (ds := l.map D.int) g3 (nmB g3 (by kernel_rfl) (by kernel_rfl)) (by rw [List.length_map]; omega) F3.var _) Ev.int Cm.eqI).imp fun v h' e => e.trans (beq_eq_false_iff_ne.mpr (by rw [List.length_map]; omega))) fun h4 x4 => ?_)
  have F4 := F3.up x4
  have bk4 := (bk2.ext x3).ext x4
  have g4 := g3.ext x4
  exact (Mx.make (k := (S "and", l, 0, 0)) g se F4 bk4 r (by kernel_rfl) sz F4.var (.cons Ev.str (.cons (Ev.tupleOf g4 F4.dm F4.var (by rw [List.length_map]; omega)) (.cons (Ev.BOOL g4) (.cons Ev.int .nil rfl) rfl) rfl) rfl)).imp fun v h' p => ⟨((x2.trans (x3.trans x4)).mv.trans p.1).sub fun b hb => List.mem_append_right _ hb, p.2.1, p.2.2⟩
theorem or_fn {l : List Int} (g : Gd w mg mb hb) (sz : st.ts.length < 1000) (is : ∀ t ∈ l, st.is t ∧ st.sort t = 0) (l2 : 2 ≤ l.length) (lz : l.length ≤ 1000) : Mk w hb 3 H a st (st.made (S "or", l, 0, 0)) 335 [.obj a.b, .list (l.map .int)] (.int (st.numM (S "or", l, 0, 0))) := by
  refine Mk.enter (ps := [S "self", S "some"]) g lk335 (by kernel_rfl) (args2 fun _ _ => rfl) rfl (fun n => rfl) (by decide) rfl rfl rfl (fun L A' H' W h1 r se bk F => ?_)
  conv => arg 7; whnf
  have g1 := g.ext F.ext
  have fD : Dm H' h1 := fun b hb => F.dm b (se.s3 b hb)
  refine Xs.exprM ((Ev.meth (H := H') g1 r (F.var.less se.s3) bk.ob.ob (.cons (F.var.less se.s3) (.cons (Ev.BOOL g1) (.cons Ev.str .nil rfl) rfl) rfl) (wantAll_fn (l := l) g1 fD bk is (.inl rfl)) rfl (by kernel_rfl)).mx.imp fun v h' p => p.1) fun h2 x2 => ?_
  have F2 := F.up x2
  have bk2 := bk.ext x2
  have g2 := g1.ext x2
  refine Xs.iff (Et.cmp (H := W) (Ev.lenL (ds := l.map D.int) g2 (nmB g2 (by kernel_rfl) (by kernel_rfl)) (by rw [List.length_map]; omega) F2.var _) Ev.int Cm.eqI) (fun z h3 x3 => absurd (beq_iff_eq.mp z) (by rw [List.length_map]; omega)) (fun z h3 x3 => ?_)
  have F3 := F2.up x3
  have g3 := g2.ext x3
  refine Xs.ret (Mx.iteF ((Et.cmp (H := W) (Ev.lenL (ds := l.map D.int) g3 (nmB g3 (by kernel_rfl) (by kernel_rfl)) (by rw [List.length_map]; omega) F3.var _) Ev.int Cm.eqI).imp fun v h' e => e.trans (beq_eq_false_iff_ne.mpr (by rw [List.length_map]; omega))) fun h4 x4 => ?_)
  have F4 := F3.up x4
  have bk4 := (bk2.ext x3).ext x4
  have g4 := g3.ext x4
  exact (Mx.make (k := (S "or", l, 0, 0)) g se F4 bk4 r (by kernel_rfl) sz F4.var (.cons Ev.str (.cons (Ev.tupleOf g4 F4.dm F4.var (by rw [List.length_map]; omega)) (.cons (Ev.BOOL g4) (.cons Ev.int .nil rfl) rfl) rfl) rfl)).imp fun v h' p => ⟨((x2.trans (x3.trans x4)).mv.trans p.1).sub fun b hb => List.mem_append_right _ hb, p.2.1, p.2.2⟩
theorem ite_fn {x y z : Int} (g : Gd w mg mb hb) (sz : st.ts.length < 1000) (ix : st.is x ∧ st.sort x = 0) (iy : st.is y ∧ st.sort y = 0) (iz : st.is z ∧ st.sort z = 0) : Mk w hb 3 H a st (st.made (S "ite", [x, y, z], 0, 0)) 377 [.obj a.b, .int x, .int y, .int z] (.int (st.numM (S "ite", [x, y, z], 0, 0))) := by
  refine Mk.enter (ps := [S "self", S "c", S "a", S "b"]) g lk377 (by kernel_rfl) (args4 fun _ _ _ _ => rfl) rfl (fun n => rfl) (by decide) rfl rfl rfl (fun L A' H' W h1 r se bk F => ?_)
  conv => arg 7; whnf
  have g1 := g.ext F.ext
  have fD : Dm H' h1 := fun b hb => F.dm b (se.s3 b hb)
  refine Xs.exprM ((Ev.meth (H := H') g1 r (F.var.less se.s3) bk.ob.ob (.cons (F.var.less se.s3) (.cons (Ev.BOOL g1) (.cons Ev.str .nil rfl) rfl) rfl) ((want_fn g1 fD bk ix.1 ix.2).le (by decide)) rfl (by kernel_rfl)).mx.imp fun v h' p => p.1) fun h2 x2 => ?_
  have F2 := F.up x2
  have bk2 := bk.ext x2
  have g2 := g1.ext x2
  have fD2 : Dm H' h2 := fun b hb => F2.dm b (se.s3 b hb)
  refine Xs.exprM ((Ev.meth (H := H') g2 r (F2.var.less se.s3) bk2.ob.ob (.cons (F2.var.less se.s3) (.cons (Ev.sortAt g2 bk2 (F2.var.less se.s3) (F2.var.less se.s3) iy.1) (.cons Ev.str .nil rfl) rfl) rfl) ((want_fn g2 fD2 bk2 iz.1 (iz.2.trans iy.2.symm)).le (by decide)) rfl (by kernel_rfl)).mx.imp fun v h' p => p.1) fun h3 x3 => ?_
  have F3 := F2.up x3
  have bk3 := bk2.ext x3
  have g3 := g2.ext x3
  refine Xs.ret ((Mx.make (k := (S "ite", [x, y, z], 0, 0)) g se F3 bk3 r (by kernel_rfl) sz F3.var (.cons Ev.str (.cons (Ev.tup F3.dm (.cons F3.var (.cons F3.var (.cons F3.var .nil rfl) rfl) rfl)) (.cons (Ev.intAny (H := H') (Ev.cast (Ev.sortAt g3 bk3 (F3.var.less se.s3) (F3.var.less se.s3) iy.1) (congrArg D.int iy.2))) (.cons Ev.int .nil rfl) rfl) rfl) rfl)).imp fun v h' p => ⟨((x2.trans x3).mv.trans p.1).sub fun b hb => List.mem_append_right _ hb, p.2.1, p.2.2⟩)
theorem distinct_of_fn {l : List Int} {s : Int} (g : Gd w mg mb hb) (sz : st.ts.length < 1000) (is : ∀ t ∈ l, st.is t ∧ st.sort t = s) (l2 : 2 ≤ l.length) (lz : l.length ≤ 1000) : Mk w hb 3 H a st (st.made (S "distinct", l, 0, 0)) 370 [.obj a.b, .list (l.map .int)] (.int (st.numM (S "distinct", l, 0, 0))) := by
  refine Mk.enter (ps := [S "self", S "some"]) g lk370 (by kernel_rfl) (args2 fun _ _ => rfl) rfl (fun n => rfl) (by decide) rfl rfl rfl (fun L A' H' W h1 r se bk F => ?_)
  conv => arg 7; whnf
  have g1 := g.ext F.ext
  refine Xs.iff (Et.cmp (H := W) (Ev.lenL (ds := l.map D.int) g1 (nmB g1 (by kernel_rfl) (by kernel_rfl)) (by rw [List.length_map]; omega) F.var _) Ev.int Cm.ltI) (fun z h3 x3 => absurd (of_decide_eq_true z) (by rw [List.length_map]; omega)) (fun z h3 x3 => ?_)
  have F3 := F.up x3
  have bk3 := bk.ext x3
  have g3 := g1.ext x3
  have fD : Dm H' h3 := fun b hb => F3.dm b (se.s3 b hb)
  have i0 := is l[0]! (by rw [getElem!_pos l 0 (by omega)]; exact List.getElem_mem _)
  refine Xs.exprM ((Ev.meth (H := H') g3 r (F3.var.less se.s3) bk3.ob.ob (.cons (F3.var.less se.s3) (.cons (Ev.cast (Ev.sortAt g3 bk3 (F3.var.less se.s3) (Ev.itemL (k := 0) (F3.var.less se.s3) Ev.int (by decide) (get_int (i := 0) (by omega)) (by decide)) i0.1) (congrArg D.int i0.2)) (.cons Ev.str .nil rfl) rfl) rfl) (wantAll_fn (l := l) g3 fD bk3 is (.inl rfl)) rfl (by kernel_rfl)).mx.imp fun v h' p => p.1) fun h4 x4 => ?_
  have F4 := F3.up x4
  have bk4 := bk3.ext x4
  have g4 := g3.ext x4
  exact Xs.ret ((Mx.make (k := (S "distinct", l, 0, 0)) g se F4 bk4 r (by kernel_rfl) sz F4.var (.cons Ev.str (.cons (Ev.tupleOf g4 F4.dm F4.var (by rw [List.length_map]; omega)) (.cons (Ev.BOOL g4) (.cons Ev.int .nil rfl) rfl) rfl) rfl)).imp fun v h' p => ⟨((x3.trans x4).mv.trans p.1).sub fun b hb => List.mem_append_right _ hb, p.2.1, p.2.2⟩)
noncomputable def BS.eqd (st : BS) (x y : Int) : BS := if x = y then st else st.made (BS.eqK x y)
noncomputable def BS.eqN (st : BS) (x y : Int) : Int := if x = y then 1 else st.numM (BS.eqK x y)
theorem eq_fn {x y : Int} (g : Gd w mg mb hb) (sz : st.ts.length < 1000) (ix : st.is x) (iy : st.is y) (sx : st.sort y = st.sort x) : Mk w hb 3 H a st (st.eqd x y) 363 [.obj a.b, .int x, .int y] (.int (st.eqN x y)) := by
  refine Mk.enter (ps := [S "self", S "a", S "b"]) g lk363 (by kernel_rfl) (args3 fun _ _ _ => rfl) rfl (fun n => rfl) (by decide) rfl rfl rfl (fun L A' H' W h1 r se bk F => ?_)
  conv => arg 7; whnf
  have g1 := g.ext F.ext
  have fD : Dm H' h1 := fun b hb => F.dm b (se.s3 b hb)
  refine Xs.exprM ((Ev.meth (H := H') g1 r (F.var.less se.s3) bk.ob.ob (.cons (F.var.less se.s3) (.cons (Ev.sortAt g1 bk (F.var.less se.s3) (F.var.less se.s3) ix) (.cons Ev.str .nil rfl) rfl) rfl) ((want_fn g1 fD bk iy sx).le (by decide)) rfl (by kernel_rfl)).mx.imp fun v h' p => p.1) fun h2 x2 => ?_
  have F2 := F.up x2
  have bk2 := bk.ext x2
  have g2 := g1.ext x2
  refine Xs.iff (Et.cmp (H := W) F2.var F2.var Cm.eqI) (fun z h3 x3 => ?_) (fun z h3 x3 => ?_)
  · have q : x = y := beq_iff_eq.mp z
    have e1 : st.eqd x y = st := if_pos q
    have e2 : st.eqN x y = 1 := if_pos q
    rw [e1, e2]
    have F3 := F2.up x3
    have bk3 := bk2.ext x3
    exact Xs.ret ((Ev.attr (H := H') (g2.ext x3) (F3.var.less se.s3) bk3.ob.ob rfl (d := .int 1) Rd.int (by kernel_rfl)).mx.imp fun v h' p => ⟨(x2.trans (x3.trans p.1)).mv, bk3.ext p.1, p.2⟩)
  · have q : x ≠ y := fun q => by rw [q] at z; simp at z
    have e1 : st.eqd x y = st.made (BS.eqK x y) := if_neg q
    have e2 : st.eqN x y = st.numM (BS.eqK x y) := if_neg q
    rw [e1, e2]
    have F3 := F2.up x3
    have bk3 := bk2.ext x3
    have g3 := g2.ext x3
    exact Xs.ret ((Mx.make (k := BS.eqK x y) g se F3 bk3 r (by kernel_rfl) sz F3.var (.cons Ev.str (.cons (Ev.tup F3.dm (.cons (Ev.callN g3 (by kernel_rfl) (by kernel_rfl) (.cons F3.var (.cons F3.var .nil rfl) rfl) (CB.min r.hd)) (.cons (Ev.callN g3 (by kernel_rfl) (by kernel_rfl) (.cons F3.var (.cons F3.var .nil rfl) rfl) (CB.max r.hd)) .nil rfl) rfl))
        (.cons (Ev.BOOL g3) (.cons Ev.int .nil rfl) rfl) rfl) rfl)).imp fun v h' p => ⟨((x2.trans x3).mv.trans p.1).sub fun b hb => List.mem_append_right _ hb, p.2.1, p.2.2⟩)
theorem made_fn {k : Key} (g : Gd w mg mb h) (hdm : Dm H h) (bk : Bk w H a st h) (hk : PyData.strOk k.1 = true) (nz : numOf st.ts k ≠ 0) : Fn w 1 H h 237 [.obj a.b, .str k.1, .tup (k.2.1.map .int), .int k.2.2.1, .int k.2.2.2] (.int (numOf st.ts k)) := by
  refine Fn.enter (ps := [S "self", S "op", S "args", S "sort", S "data"]) g hdm lk237 (by kernel_rfl) (args5 fun _ _ _ _ _ => rfl) rfl (fun n => rfl) (by decide) rfl rfl rfl (fun L A' W h0 h1 r e hH hW F => ?_)
  conv => arg 7; whnf
  refine Xs.asg (d := k.d) F (Ev.tup F.dm (.cons F.var (.cons F.var (.cons F.var (.cons F.var .nil rfl) rfl) rfl) rfl)) fun h2 m2 F2 => ?_
  have e2 := e.trans F2.ext
  have b2 := bk.in_ e2 hW
  refine Xs.asg (d := .int (numOf st.ts k)) F2 (Ev.numGet r (Ev.attr (g.ext e2) F2.var b2.ob.ob rfl (d := .obj a.nu) rfl (by kernel_rfl)) b2.num b2.ok hk b2.sys F2.var Ev.int) fun h3 m3 F3 => ?_
  refine Xs.iff (Et.cmp F3.var Ev.int Cm.eqI) (fun z h4 x4 => absurd (beq_iff_eq.mp z) nz) (fun z h4 x4 => ?_)
  have F4 := F3.up x4
  exact Xs.retD F4.var fun v h' x r => ⟨F4.ext.trans x, r⟩
theorem eqMade_fn {x y : Int} (g : Gd w mg mb h) (hdm : Dm H h) (bk : Bk w H a st h) (ix : st.is x) (iy : st.is y) (sx : st.sort y = st.sort x) (nz : x ≠ y → numOf st.ts (BS.eqK x y) ≠ 0) : Fn w 3 H h 363 [.obj a.b, .int x, .int y] (.int (st.eqOf x y)) := by
  refine Fn.enter (ps := [S "self", S "a", S "b"]) g hdm lk363 (by kernel_rfl) (args3 fun _ _ _ => rfl) rfl (fun n => rfl) (by decide) rfl rfl rfl (fun L A' W h0 h1 r e hH hW F => ?_)
  conv => arg 7; whnf
  have e1 := e.trans F.ext
  have b1 := bk.in_ e1 hW
  have g1 := g.ext e1
  refine Xs.exprM ((Ev.meth g1 r F.var b1.ob.ob (.cons F.var (.cons (Ev.sortAt g1 b1 F.var F.var ix) (.cons Ev.str .nil rfl) rfl) rfl) ((want_fn g1 F.dm b1 iy sx).le (by decide)) rfl (by kernel_rfl)).mx.imp fun v h' p => p.1) fun h2 x2 => ?_
  have F2 := F.up x2
  have b2 := b1.ext x2
  have g2 := g1.ext x2
  refine Xs.iff (Et.cmp F2.var F2.var Cm.eqI) (fun z h3 x3 => ?_) (fun z h3 x3 => ?_)
  · have q : x = y := beq_iff_eq.mp z
    have e1 : st.eqOf x y = 1 := if_pos q
    rw [e1]
    have F3 := F2.up x3
    exact Xs.retD (Ev.attr (g2.ext x3) F3.var (b2.ext x3).ob.ob rfl (d := .int 1) Rd.int (by kernel_rfl)) fun v h' x r => ⟨F3.ext.trans x, r⟩
  · have q : x ≠ y := fun q => by rw [q] at z; simp at z
    have e2 : st.eqOf x y = numOf st.ts (BS.eqK x y) := if_neg q
    rw [e2]
    have F3 := F2.up x3
    have b3 := b2.ext x3
    have g3 := g2.ext x3
    exact Xs.retD (Ev.meth g3 r F3.var b3.ob.ob (.cons Ev.str (.cons (Ev.tup F3.dm (.cons (Ev.callN g3 (by kernel_rfl) (by kernel_rfl) (.cons F3.var (.cons F3.var .nil rfl) rfl) (CB.min r.hd)) (.cons (Ev.callN g3 (by kernel_rfl) (by kernel_rfl) (.cons F3.var (.cons F3.var .nil rfl) rfl) (CB.max r.hd)) .nil rfl) rfl))
        (.cons (Ev.BOOL g3) (.cons Ev.int .nil rfl) rfl) rfl) rfl) ((made_fn (k := BS.eqK x y) g3 F3.dm b3 (by kernel_rfl) (nz q)).le (by decide)) rfl (by kernel_rfl)) fun v h' x r => ⟨F3.ext.trans x, r⟩
structure Bk9 (w : World) (m : Nat) (H : List Addr) (a : BA) (ts : List Key) (n1 n2 n3 n4 n5 : Nat) (h : Heap) : Prop where
  ob : ObH (a.V ++ H) h a.b 408 (a.afm m)
  five : Bk5 w H a (opsD ts) (argsD ts) (sortsD ts) (datasD ts) ts h
  sn : ∃ ds, (ds.length = n1 ∧ noTabs ds = true) ∧ PL a.V H h a.sn ds
  sw : ∃ ds, (ds.length = n2 ∧ noTabs ds = true) ∧ PL a.V H h a.sw ds
  fn : ∃ ds, (ds.length = n3 ∧ noTabs ds = true) ∧ PL a.V H h a.fn ds
  fa : ∃ ds, (ds.length = n4 ∧ noTabs ds = true) ∧ PL a.V H h a.fa ds
  fr : ∃ ds, (ds.length = n5 ∧ noTabs ds = true) ∧ PL a.V H h a.fr ds
theorem Bk0.nine {m : Nat} (b : Bk0 w m H a st h) : Bk9 w m H a st.ts st.ns st.ns st.nf st.nf st.nf h := ⟨b.ob, b.five, b.sn, b.sw, b.fn, b.fa, b.fr⟩
theorem Bk9.join {m : Nat} {ts : List Key} {ns nf : Nat} (q : Bk9 w m H a ts ns ns nf nf nf h) (ok : ∀ k ∈ ts, PyData.strOk k.1 = true) (sm : ts.length ≤ 1000 ∧ ns ≤ 1000 ∧ nf ≤ 1000) (nd : a.V.Nodup) (sys : (a.nu == sysModules) = false) : Bk0 w m H a ⟨ts, ns, nf⟩ h :=
  ⟨q.ob, q.five.ops, q.five.args, q.five.sorts, q.five.datas, q.sn, q.sw, q.fn, q.fa, q.fr, q.five.num, ok, sm, nd, sys⟩
theorem Bk5.move {x : Addr} {o ar so da : List D} {ts : List Key} {h' : Heap} (p : Bk5 w H a o ar so da ts h) (m : Mv [x] h h') (hx : x ∈ a.V) (ok : ∀ k ∈ ts, PyData.strOk k.1 = true) (n1 : a.to ≠ x) (n2 : a.ta ≠ x) (n3 : a.ts ≠ x) (n4 : a.td ≠ x) (n5 : a.nu ≠ x) : Bk5 w H a o ar so da ts h' :=
  ⟨p.ops.move m n1 hx, p.args.move m n2 hx, p.sorts.move m n3 hx, p.datas.move m n4 hx, p.num.move m n5 hx ok⟩
theorem Bk9.sn_app {m' n1 n2 n3 n4 n5 : Nat} {ts : List Key} {h' : Heap} {ds : List D} (p : Bk9 w m' H a ts n1 n2 n3 n4 n5 h) (nd : a.V.Nodup) (ok : ∀ k ∈ ts, PyData.strOk k.1 = true) (m : Mv [a.sn] h h') (pl : PL a.V H h' a.sn ds) (hl : ds.length = n1 + 1 ∧ noTabs ds = true) : Bk9 w m' H a ts (n1 + 1) n2 n3 n4 n5 h' :=
  have hx : a.sn ∈ a.V := List.mem_of_getElem? (i := 5) rfl
  ⟨p.ob.move m hx, p.five.move m hx ok (nd_ne nd (i := 0) (j := 5) rfl rfl (by decide)) (nd_ne nd (i := 1) (j := 5) rfl rfl (by decide)) (nd_ne nd (i := 2) (j := 5) rfl rfl (by decide)) (nd_ne nd (i := 3) (j := 5) rfl rfl (by decide)) (nd_ne nd (i := 4) (j := 5) rfl rfl (by decide)), ⟨_, hl, pl⟩, let ⟨d, e, q⟩ := p.sw; ⟨d, e, q.move m (nd_ne nd (i := 6) (j := 5) rfl rfl (by decide)) hx⟩, let ⟨d, e, q⟩ := p.fn; ⟨d, e, q.move m (nd_ne nd (i := 7) (j := 5) rfl rfl (by decide)) hx⟩, let ⟨d, e, q⟩ := p.fa; ⟨d, e, q.move m (nd_ne nd (i := 8) (j := 5) rfl rfl (by decide)) hx⟩, let ⟨d, e, q⟩ := p.fr; ⟨d, e, q.move m (nd_ne nd (i := 9) (j := 5) rfl rfl (by decide)) hx⟩⟩
theorem Bk9.sw_app {m' n1 n2 n3 n4 n5 : Nat} {ts : List Key} {h' : Heap} {ds : List D} (p : Bk9 w m' H a ts n1 n2 n3 n4 n5 h) (nd : a.V.Nodup) (ok : ∀ k ∈ ts, PyData.strOk k.1 = true) (m : Mv [a.sw] h h') (pl : PL a.V H h' a.sw ds) (hl : ds.length = n2 + 1 ∧ noTabs ds = true) : Bk9 w m' H a ts n1 (n2 + 1) n3 n4 n5 h' :=
  have hx : a.sw ∈ a.V := List.mem_of_getElem? (i := 6) rfl
  ⟨p.ob.move m hx, p.five.move m hx ok (nd_ne nd (i := 0) (j := 6) rfl rfl (by decide)) (nd_ne nd (i := 1) (j := 6) rfl rfl (by decide)) (nd_ne nd (i := 2) (j := 6) rfl rfl (by decide)) (nd_ne nd (i := 3) (j := 6) rfl rfl (by decide)) (nd_ne nd (i := 4) (j := 6) rfl rfl (by decide)), let ⟨d, e, q⟩ := p.sn; ⟨d, e, q.move m (nd_ne nd (i := 5) (j := 6) rfl rfl (by decide)) hx⟩, ⟨_, hl, pl⟩, let ⟨d, e, q⟩ := p.fn; ⟨d, e, q.move m (nd_ne nd (i := 7) (j := 6) rfl rfl (by decide)) hx⟩, let ⟨d, e, q⟩ := p.fa; ⟨d, e, q.move m (nd_ne nd (i := 8) (j := 6) rfl rfl (by decide)) hx⟩, let ⟨d, e, q⟩ := p.fr; ⟨d, e, q.move m (nd_ne nd (i := 9) (j := 6) rfl rfl (by decide)) hx⟩⟩
theorem Bk9.fn_app {m' n1 n2 n3 n4 n5 : Nat} {ts : List Key} {h' : Heap} {ds : List D} (p : Bk9 w m' H a ts n1 n2 n3 n4 n5 h) (nd : a.V.Nodup) (ok : ∀ k ∈ ts, PyData.strOk k.1 = true) (m : Mv [a.fn] h h') (pl : PL a.V H h' a.fn ds) (hl : ds.length = n3 + 1 ∧ noTabs ds = true) : Bk9 w m' H a ts n1 n2 (n3 + 1) n4 n5 h' :=
  have hx : a.fn ∈ a.V := List.mem_of_getElem? (i := 7) rfl
  ⟨p.ob.move m hx, p.five.move m hx ok (nd_ne nd (i := 0) (j := 7) rfl rfl (by decide)) (nd_ne nd (i := 1) (j := 7) rfl rfl (by decide)) (nd_ne nd (i := 2) (j := 7) rfl rfl (by decide)) (nd_ne nd (i := 3) (j := 7) rfl rfl (by decide)) (nd_ne nd (i := 4) (j := 7) rfl rfl (by decide)), let ⟨d, e, q⟩ := p.sn; ⟨d, e, q.move m (nd_ne nd (i := 5) (j := 7) rfl rfl (by decide)) hx⟩, let ⟨d, e, q⟩ := p.sw; ⟨d, e, q.move m (nd_ne nd (i := 6) (j := 7) rfl rfl (by decide)) hx⟩, ⟨_, hl, pl⟩, let ⟨d, e, q⟩ := p.fa; ⟨d, e, q.move m (nd_ne nd (i := 8) (j := 7) rfl rfl (by decide)) hx⟩, let ⟨d, e, q⟩ := p.fr; ⟨d, e, q.move m (nd_ne nd (i := 9) (j := 7) rfl rfl (by decide)) hx⟩⟩
theorem Bk9.fa_app {m' n1 n2 n3 n4 n5 : Nat} {ts : List Key} {h' : Heap} {ds : List D} (p : Bk9 w m' H a ts n1 n2 n3 n4 n5 h) (nd : a.V.Nodup) (ok : ∀ k ∈ ts, PyData.strOk k.1 = true) (m : Mv [a.fa] h h') (pl : PL a.V H h' a.fa ds) (hl : ds.length = n4 + 1 ∧ noTabs ds = true) : Bk9 w m' H a ts n1 n2 n3 (n4 + 1) n5 h' :=
  have hx : a.fa ∈ a.V := List.mem_of_getElem? (i := 8) rfl
  ⟨p.ob.move m hx, p.five.move m hx ok (nd_ne nd (i := 0) (j := 8) rfl rfl (by decide)) (nd_ne nd (i := 1) (j := 8) rfl rfl (by decide)) (nd_ne nd (i := 2) (j := 8) rfl rfl (by decide)) (nd_ne nd (i := 3) (j := 8) rfl rfl (by decide)) (nd_ne nd (i := 4) (j := 8) rfl rfl (by decide)), let ⟨d, e, q⟩ := p.sn; ⟨d, e, q.move m (nd_ne nd (i := 5) (j := 8) rfl rfl (by decide)) hx⟩, let ⟨d, e, q⟩ := p.sw; ⟨d, e, q.move m (nd_ne nd (i := 6) (j := 8) rfl rfl (by decide)) hx⟩, let ⟨d, e, q⟩ := p.fn; ⟨d, e, q.move m (nd_ne nd (i := 7) (j := 8) rfl rfl (by decide)) hx⟩, ⟨_, hl, pl⟩, let ⟨d, e, q⟩ := p.fr; ⟨d, e, q.move m (nd_ne nd (i := 9) (j := 8) rfl rfl (by decide)) hx⟩⟩
theorem Bk9.fr_app {m' n1 n2 n3 n4 n5 : Nat} {ts : List Key} {h' : Heap} {ds : List D} (p : Bk9 w m' H a ts n1 n2 n3 n4 n5 h) (nd : a.V.Nodup) (ok : ∀ k ∈ ts, PyData.strOk k.1 = true) (m : Mv [a.fr] h h') (pl : PL a.V H h' a.fr ds) (hl : ds.length = n5 + 1 ∧ noTabs ds = true) : Bk9 w m' H a ts n1 n2 n3 n4 (n5 + 1) h' :=
  have hx : a.fr ∈ a.V := List.mem_of_getElem? (i := 9) rfl
  ⟨p.ob.move m hx, p.five.move m hx ok (nd_ne nd (i := 0) (j := 9) rfl rfl (by decide)) (nd_ne nd (i := 1) (j := 9) rfl rfl (by decide)) (nd_ne nd (i := 2) (j := 9) rfl rfl (by decide)) (nd_ne nd (i := 3) (j := 9) rfl rfl (by decide)) (nd_ne nd (i := 4) (j := 9) rfl rfl (by decide)), let ⟨d, e, q⟩ := p.sn; ⟨d, e, q.move m (nd_ne nd (i := 5) (j := 9) rfl rfl (by decide)) hx⟩, let ⟨d, e, q⟩ := p.sw; ⟨d, e, q.move m (nd_ne nd (i := 6) (j := 9) rfl rfl (by decide)) hx⟩, let ⟨d, e, q⟩ := p.fn; ⟨d, e, q.move m (nd_ne nd (i := 7) (j := 9) rfl rfl (by decide)) hx⟩, let ⟨d, e, q⟩ := p.fa; ⟨d, e, q.move m (nd_ne nd (i := 8) (j := 9) rfl rfl (by decide)) hx⟩, ⟨_, hl, pl⟩⟩
noncomputable def Am (w : World) (A : Around) (env : Env) (h : Heap) (es : List Expr) (R : List Value → Heap → Prop) : Prop := (∀ pos, (backTo pos (starEach es env)).any (·.1) = false) ∧ ∀ pos, Mx w A h (spliced (backTo pos (starEach es env))) R
theorem Am.nil {R : List Value → Heap → Prop} (r : R [] h) : Am w A env h [] R := ⟨fun _ => rfl, fun pos s Q E e k => spliced_nil (k _ s.heap s.toks (e ▸ r))⟩
theorem Am.cons {e : Expr} {es : List Expr} {R1 : Value → Heap → Prop} {R : List Value → Heap → Prop} (m : Mx w A h (eval e env) R1) (x : ∀ v h1, R1 v h1 → Am w A env h1 es (fun vs h2 => R (v :: vs) h2)) (p : ∀ pos, (backTo pos (starEach es env)).any (·.1) = false) (hst : starEach (e :: es) env = (false, eval e env) :: starEach es env := by rfl) : Am w A env h (e :: es) R := by
  refine ⟨fun pos => ?_, fun pos => ?_⟩
  · rw [hst]; exact p pos
  · rw [hst]
    intro s Q E he k
    refine spliced_cons (m s _ E he fun v h1 tk1 r1 => (x v h1 r1).2 pos _ _ E rfl fun vs h2 tk2 r2 => k _ h2 tk2 r2)
theorem Am.first {e : Expr} {es : List Expr} {ds : List D} {R1 : Value → Heap → Prop} {R : List Value → Heap → Prop} (m : Mx w A h (eval e env) R1) (x : ∀ v h1, R1 v h1 → Es w A W env h1 es ds) (p : ∀ pos, (backTo pos (starEach es env)).any (·.1) = false)
    (k : ∀ v h1 vs h2, R1 v h1 → Ext h1 h2 → RdAll W h2 ds vs → R (v :: vs) h2) (hst : starEach (e :: es) env = (false, eval e env) :: starEach es env := by rfl) : Am w A env h (e :: es) R :=
  Am.cons m (fun v h1 r1 => ⟨p, fun pos => ((x v h1 r1).go (pos := pos)).mx.imp fun vs h2 q => k v h1 vs h2 r1 q.1 q.2⟩) p hst
theorem Am.pure {e : Expr} {es : List Expr} {d : D} {R : List Value → Heap → Prop} (m : Ev w A W env h e d) (x : ∀ v h1, Ext h h1 → Rd W h1 d v → Am w A env h1 es (fun vs h2 => R (v :: vs) h2)) (p : ∀ pos, (backTo pos (starEach es env)).any (·.1) = false) (hst : starEach (e :: es) env = (false, eval e env) :: starEach es env := by rfl) : Am w A env h (e :: es) R :=
  Am.cons m.mx (fun v h1 r1 => x v h1 r1.1 r1.2) p hst
theorem callKA {pos : Pos} {f : Value} {first : List Value} {es : List Expr} {R1 : List Value → Heap → Prop} {R : Value → Heap → Prop} {s : Shared} {Q : Value → Shared → Prop} {E : Value → Shared → Prop} (g : Gd w mg mb hb) (hk : keepIn (KF w.params) f = true) (as : Am w A env s.heap es R1) (ne : es ≠ [])
    (c : ∀ vs h₁, R1 vs h₁ → Ext hb h₁ ∧ Mx w A h₁ (PySem.call f (first ++ vs)) R) (k : ∀ v h' tk, R v h' → Q v { s with heap := h', toks := tk }) (hst : ∃ e r, es = e :: r ∧ starEach es env = (false, eval e env) :: starEach r env) : wpAny (model prg w) A (callWith pos f first (backTo pos (starEach es env)) []) Q E s := by
  refine callWith_of (P := fun h' => (KF w.params).In h') (by rw [as.1]; rfl) (keeps_K hk) ?_
  obtain ⟨e, r, rfl, hst⟩ := hst
  have go := as.2 pos
  rw [hst] at go ⊢
  exact evalArgs_plain (go s _ E rfl fun vs h1 tk r1 => by
    obtain ⟨x, y⟩ := c vs h1 r1
    exact ⟨g.X.keeps x, y _ Q E rfl fun v h2 tk2 p => k v h2 tk2 p⟩)
theorem Mx.methA {o : Expr} {name : Str} {apos pos : Pos} {e0 : Expr} {es : List Expr} {x C f : Addr} {af : Str → Option Value} {R1 : List Value → Heap → Prop} {R : Value → Heap → Prop} (g : Gd w mg mb hb) (e : Ext hb h) (he : Ev w A H env h o (.obj x)) (ob : Ob h x C af) (as : ∀ h1, Ext h h1 → Am w A env h1 (e0 :: es) R1)
    (c : ∀ vs h₁, R1 vs h₁ → Ext hb h₁ ∧ Mx w A h₁ (PySem.call (.ref f) (.ref x :: vs)) R) (ha : af name = none) (hk : methOk (KF w.params) C name f = true) {pl : Sem Bool}
    (hs : eval (.Call (.Attribute o name apos) (e0 :: es) [] pos) env = (do let ov ← eval o env; standAt (Pos.atName apos); let (f, first) ← holding [ov] (getMethod ov name pl); callWith pos f first (backTo pos (starEach (e0 :: es) env)) []) := by rfl)
    (hst : starEach (e0 :: es) env = (false, eval e0 env) :: starEach es env := by rfl) : Mx w A h (eval (.Call (.Attribute o name apos) (e0 :: es) [] pos) env) R := fun s Q E ee k => by
  subst ee
  refine MethodCall_ (pl := pl) (he s _ E (Ext.refl _) fun u h1 tk x1 r => ?_) hs
  cases r
  refine Gm.fn (g.ext e) ob ha hk _ _ E x1 fun u h2 tk2 x2 q => ?_
  subst q
  have hf : keepIn (KF w.params) (.ref f) = true := by
    unfold methOk at hk
    exact (Bool.and_eq_true_iff.mp (Bool.and_eq_true_iff.mp (Bool.and_eq_true_iff.mp hk).2).2).2
  exact callKA (first := [.ref x]) (s := { s with heap := h2, toks := tk2 }) g hf (as h2 (x1.trans x2)) (by simp) (fun vs h3 r3 => c vs h3 r3) k ⟨_, _, rfl, hst⟩
theorem lk118 : (KF w.params).lookup 118 = some o118 := by kernel_rfl
theorem lk146 : (KF w.params).lookup 146 = some o146 := by kernel_rfl
theorem lk160 : (KF w.params).lookup 160 = some o160 := by kernel_rfl
theorem Ev.tupleSame {e : Expr} {np pos : Pos} {ds : List D} (g : Gd w mg mb h) (m : Ev w A H env h e (.tup ds))
    (q : nsIn (KF w.params) mainGlobals (S "tuple") = some none := by kernel_rfl) (hbt : bootBuiltins (S "tuple") = some (.type "tuple") := by kernel_rfl) (hst : starEach [e] env = (false, eval e env) :: starEach [] env := by rfl)
    (hg : env.globals = mainGlobals := by rfl) (hbb : env.builtins = builtinsNs := by rfl) (hk : env.scope.kind = .function := by rfl) (hl : env.kindOf (S "tuple") = some .globalImplicit := by rfl)
    (hs : eval (.Call (.Name (S "tuple") np) [e] [] pos) env = (do let __do_lift ← eval (.Name (S "tuple") np) env; callWith pos __do_lift [] (backTo pos (starEach [e] env)) (backToKw pos (keywordEach [] env))) := by rfl) :
    Ev w A H env h (.Call (.Name (S "tuple") np) [e] [] pos) (.tup ds) :=
  Ev.callT ((nmT g q hbt (by decide) hg hbb hk hl (by decide)) np) (.cons m .nil hst) (fun vs h₁ e1 r s Q E x k => by
    obtain ⟨v, rfl, l, us, rfl, nl, il, ru⟩ := one r
    have il' : s.heap.IsTuple l us.toArray := by obtain ⟨o, q, r⟩ := il; exact ⟨o, x _ _ q, r⟩
    have il'' : IsTup s.heap l us.toArray := by obtain ⟨o, q, r⟩ := il; exact ⟨o, x _ _ q, r⟩
    exact call_tuple_same il' (k _ s.heap s.toks (Ext.refl _) ⟨l, us, rfl, nl, il'', ru.ext x⟩)) hs
theorem declSort_fn {nm : Str} (g : Gd w mg mb hb) (sz : st.ns < 1000) : Mk w hb 1 H a st { st with ns := st.ns + 1 } 118 [.obj a.b, .str nm] (.int st.ns) := by
  refine Mk.enter (ps := [S "self", S "name"]) g lk118 (by kernel_rfl) (args2 fun _ _ => rfl) rfl (fun n => rfl) (by decide) rfl rfl rfl (fun L A' H' W h1 r se bk F => ?_)
  conv => arg 7; whnf
  have g1 := g.ext F.ext
  have i1 : a.sn ∈ a.V := List.mem_of_getElem? (i := 5) rfl
  have i2 : a.sw ∈ a.V := List.mem_of_getElem? (i := 6) rfl
  have ok := bk.ok
  have sm := bk.sm
  have b9 := bk.nine
  obtain ⟨d1, l1, p1⟩ := bk.sn
  obtain ⟨d2, l2, p2⟩ := bk.sw
  refine Xs.append F (p1.ol se.s1 se.s2) (se.vW _ i1).1 (se.vW _ i1).2.1 (se.vW _ i1).2.2 (Ev.attr g1 F.var bk.ob.ob rfl (d := .obj a.sn) rfl (by kernel_rfl)) F.var (by omega) fun h2 F2 o2 m2 => ?_
  have c9 := b9.sn_app bk.nd ok m2 (o2.pl p1.1 se.s1) ⟨by simp [l1.1], by rw [noTabs_app, l1.2]; rfl⟩
  have q2 := p2.move m2 (nd_ne bk.nd (i := 6) (j := 5) rfl rfl (by decide)) i1
  refine Xs.append F2 (q2.ol se.s1 se.s2) (se.vW _ i2).1 (se.vW _ i2).2.1 (se.vW _ i2).2.2 (Ev.attr (g.ext F2.ext) F2.var c9.ob.ob rfl (d := .obj a.sw) rfl (by kernel_rfl)) Ev.int (by omega) fun h3 F3 o3 m3 => ?_
  have e9 := c9.sw_app bk.nd ok m3 (o3.pl q2.1 se.s1) ⟨by simp [l2.1], by rw [noTabs_app, l2.2]; rfl⟩
  have bk3 : Bk w H' a { st with ns := st.ns + 1 } h3 := e9.join ok ⟨sm.1, sz, sm.2.2⟩ bk.nd bk.sys
  obtain ⟨d3, l3, p3⟩ := e9.sn
  refine Xs.ret ((Ev.cast (H := H') (Ev.bin (Ev.lenL (ds := d3) (g.ext F3.ext) (nmB (g.ext F3.ext) (by kernel_rfl) (by kernel_rfl)) (by omega) (Ev.attr (g.ext F3.ext) (F3.var.less se.s3) bk3.ob.ob rfl p3.rd (by kernel_rfl)) _) Ev.int Bin.sub) (d' := .int st.ns) (by rw [l3.1]; congr 1; omega)).mx.imp fun v h' p => ⟨?_, bk3.ext p.1, p.2⟩)
  exact ((m2.sub fun b hb => by rw [List.mem_singleton.mp hb]; exact List.mem_append_right _ i1).trans (m3.sub fun b hb => by rw [List.mem_singleton.mp hb]; exact List.mem_append_right _ i2)).trans p.1.mv
theorem declFun_fn {nm : Str} {s : Int} (g : Gd w mg mb hb) (sz : st.nf < 1000) : Mk w hb 1 H a st { st with nf := st.nf + 1 } 146 [.obj a.b, .str nm, .tup [], .int s] (.int st.nf) := by
  refine Mk.enter (ps := [S "self", S "name", S "arg_sorts", S "result"]) g lk146 (by kernel_rfl) (args4 fun _ _ _ _ => rfl) rfl (fun n => rfl) (by decide) rfl rfl rfl (fun L A' H' W h1 r se bk F => ?_)
  conv => arg 7; whnf
  have g1 := g.ext F.ext
  have i1 : a.fn ∈ a.V := List.mem_of_getElem? (i := 7) rfl
  have i2 : a.fa ∈ a.V := List.mem_of_getElem? (i := 8) rfl
  have i3 : a.fr ∈ a.V := List.mem_of_getElem? (i := 9) rfl
  have ok := bk.ok
  have sm := bk.sm
  have b9 := bk.nine
  obtain ⟨d1, l1, p1⟩ := bk.fn
  obtain ⟨d2, l2, p2⟩ := bk.fa
  obtain ⟨d3, l3, p3⟩ := bk.fr
  refine Xs.append F (p1.ol se.s1 se.s2) (se.vW _ i1).1 (se.vW _ i1).2.1 (se.vW _ i1).2.2 (Ev.attr g1 F.var bk.ob.ob rfl (d := .obj a.fn) rfl (by kernel_rfl)) F.var (by omega) fun h2 F2 o2 m2 => ?_
  have c9 := b9.fn_app bk.nd ok m2 (o2.pl p1.1 se.s1) ⟨by simp [l1.1], by rw [noTabs_app, l1.2]; rfl⟩
  have q2 := p2.move m2 (nd_ne bk.nd (i := 8) (j := 7) rfl rfl (by decide)) i1
  have q3 := p3.move m2 (nd_ne bk.nd (i := 9) (j := 7) rfl rfl (by decide)) i1
  refine Xs.append F2 (q2.ol se.s1 se.s2) (se.vW _ i2).1 (se.vW _ i2).2.1 (se.vW _ i2).2.2 (Ev.attr (g.ext F2.ext) F2.var c9.ob.ob rfl (d := .obj a.fa) rfl (by kernel_rfl)) (Ev.tupleSame (g.ext F2.ext) F2.var) (by omega) fun h3 F3 o3 m3 => ?_
  have e9 := c9.fa_app bk.nd ok m3 (o3.pl q2.1 se.s1) ⟨by simp [l2.1], by rw [noTabs_app, l2.2]; rfl⟩
  have q3' := q3.move m3 (nd_ne bk.nd (i := 9) (j := 8) rfl rfl (by decide)) i2
  refine Xs.append F3 (q3'.ol se.s1 se.s2) (se.vW _ i3).1 (se.vW _ i3).2.1 (se.vW _ i3).2.2 (Ev.attr (g.ext F3.ext) F3.var e9.ob.ob rfl (d := .obj a.fr) rfl (by kernel_rfl)) F3.var (by omega) fun h4 F4 o4 m4 => ?_
  have f9 := e9.fr_app bk.nd ok m4 (o4.pl q3'.1 se.s1) ⟨by simp [l3.1], by rw [noTabs_app, l3.2]; rfl⟩
  have bk4 : Bk w H' a { st with nf := st.nf + 1 } h4 := f9.join ok ⟨sm.1, sm.2.1, sz⟩ bk.nd bk.sys
  obtain ⟨d5, l5, p5⟩ := f9.fn
  refine Xs.ret ((Ev.cast (H := H') (Ev.bin (Ev.lenL (ds := d5) (g.ext F4.ext) (nmB (g.ext F4.ext) (by kernel_rfl) (by kernel_rfl)) (by omega) (Ev.attr (g.ext F4.ext) (F4.var.less se.s3) bk4.ob.ob rfl p5.rd (by kernel_rfl)) _) Ev.int Bin.sub) (d' := .int st.nf) (by rw [l5.1]; congr 1; omega)).mx.imp fun v h' p => ⟨?_, bk4.ext p.1, p.2⟩)
  exact (((m2.sub fun b hb => by rw [List.mem_singleton.mp hb]; exact List.mem_append_right _ i1).trans (m3.sub fun b hb => by rw [List.mem_singleton.mp hb]; exact List.mem_append_right _ i2)).trans (m4.sub fun b hb => by rw [List.mem_singleton.mp hb]; exact List.mem_append_right _ i3)).trans p.1.mv
theorem const_fn {nm : Str} {s : Int} (g : Gd w mg mb hb) (sz : st.nf < 1000) (sz2 : st.ts.length < 1000) : Mk w hb 3 H a st (BS.made { st with nf := st.nf + 1 } (S "app", [], s, st.nf)) 160 [.obj a.b, .str nm, .int s] (.int (st.numM (S "app", [], s, st.nf))) := by
  refine Mk.enter (ps := [S "self", S "name", S "s"]) g lk160 (by kernel_rfl) (args3 fun _ _ _ => rfl) rfl (fun n => rfl) (by decide) rfl rfl rfl (fun L A' H' W h1 r se bk F => ?_)
  conv => arg 7; whnf
  refine Xs.ret ((Mx.methA (f := 237) (R1 := fun vs h' => Mv a.V h1 h' ∧ Bk w H' a { st with nf := st.nf + 1 } h' ∧ Ext hb h' ∧ Dm (a.V ++ H') h' ∧ RdAll (a.V ++ H') h' [.str (S "app"), .tup [], .int s, .int st.nf] vs) (R := fun v h' => Mv a.V h1 h' ∧ Bk w H' a (BS.made { st with nf := st.nf + 1 } (S "app", [], s, st.nf)) h' ∧ Rd (a.V ++ H') h' (.int (st.numM (S "app", [], s, st.nf))) v) g F.ext F.var bk.ob.ob (fun h2 x2 => ?_) (fun vs h₁ ⟨m, b, e, dm, rd⟩ => ⟨e, ?_⟩) rfl (by kernel_rfl)).imp fun v h' p => ⟨p.1.sub fun b hb => List.mem_append_right _ hb, p.2.1, p.2.2.less se.s2⟩)
  · have F2 := F.up x2
    refine Am.pure (W := W) Ev.str (fun v h3 x3 r3 => ?_) (fun _ => rfl)
    have F3 := F2.up x3
    refine Am.pure (W := W) (Ev.tup F3.dm .nil) (fun v4 h4 x4 r4 => ?_) (fun _ => rfl)
    have F4 := F3.up x4
    refine Am.pure (W := W) F4.var (fun v5 h5 x5 r5 => ?_) (fun _ => rfl)
    have F5 := F4.up x5
    have xx := x2.trans (x3.trans (x4.trans x5))
    have bk5 := bk.ext xx
    refine Am.cons (Mx.meth (R := fun v h' => Mv a.V h5 h' ∧ Bk w H' a { st with nf := st.nf + 1 } h' ∧ Rd (a.V ++ H') h' (.int st.nf) v) (g.ext F5.ext) F5.var bk5.ob.ob (.cons F5.var (.cons (Ev.tup F5.dm .nil) (.cons F5.var .nil rfl) rfl) rfl) (fun vs h6 x6 rd => (declFun_fn (nm := nm) (s := s) g sz A' h6 vs (r.le (by decide)) (F5.ext.trans x6) (bk5.ext x6) se.v0 (fun b hb => (F5.dm.ext x6) b (se.s1 b hb)) (rd.to (To.less se.s1))).imp fun v h' p => ⟨x6.mv.trans p.1, p.2⟩) rfl (by kernel_rfl)) (fun v7 h7 r7 => ?_) (fun _ => rfl)
    obtain ⟨m7, b7, rd7⟩ := r7
    have mm : Mv a.V h1 h7 := xx.mv.trans m7
    have t7 : To (a.V ++ H') _ (a.V ++ H') h7 := To.mv m7 fun b hb => List.mem_append_left _ hb
    have rr : ∀ {d : D} {v : Value} {h' : Heap}, Rd W h' d v → Ext h' _ → Rd (a.V ++ H') h7 d v := fun q e => ((q.ext e).less se.s1).to t7
    refine Am.nil ⟨mm, b7, Mv.ext mm se.v0 F.ext, Mv.dm mm (fun b hb => F.dm b (se.s1 b hb)), v, _, rfl, rr r3 (x4.trans x5), v4, _, rfl, rr r4 x5, v5, _, rfl, rr r5 (Ext.refl _), v7, _, rfl, rd7, rfl⟩
  · exact (make_fn (st := { st with nf := st.nf + 1 }) (k := (S "app", [], s, st.nf)) g (by kernel_rfl) sz2 A' h₁ _ (r.le (by decide)) e b se.v0 dm ⟨_, _, rfl, rfl, rd⟩).imp fun v h' p => ⟨m.trans p.1, p.2.1, p.2.2⟩
theorem getL_put {nm y : Str} {hs : Int} {t : Nat} {v : Value} : ∀ {es : List DictEntry}, getL y (putL nm hs (.str nm t) v es) = if y = nm then some (some v) else getL y es
  | [] => by
    by_cases e : y = nm
    · subst e; simp [getL, putL, Value.isStr]
    · have : (nm == y) = false := beq_eq_false_iff_ne.mpr fun z => e z.symm
      simp [getL, putL, Value.isStr, e, this, DictEntry.refKey]
  | x :: r => by
    unfold putL
    cases q : x.key.isStr nm with
    | true =>
      rw [if_pos rfl]
      by_cases e : y = nm
      · subst e; simp [getL, q]
      · have k : x.key.isStr y = false := by
          cases z : x.key.isStr y with
          | false => rfl
          | true => exact absurd (Value.isStr_inj _ _ _ z q) e
        rw [if_neg e]
        unfold getL
        simp only [List.find?_cons, k, List.any_cons]
        rfl
    | false =>
      rw [if_neg (by decide)]
      have ih := getL_put (nm := nm) (y := y) (hs := hs) (t := t) (v := v) (es := r)
      unfold getL at ih ⊢
      simp only [List.find?_cons, List.any_cons]
      cases k : x.key.isStr y with
      | true =>
        have e : y ≠ nm := fun e => by rw [e] at k; rw [k] at q; cases q
        rw [if_neg e]
      | false =>
        dsimp only
        by_cases e : y = nm
        · rw [if_pos e] at ih ⊢
          cases f : List.find? (fun x => x.key.isStr y) (putL nm hs (Value.str nm t) v r) with
          | some z => rw [f] at ih; exact ih
          | none =>
            rw [f] at ih
            dsimp only at ih
            split at ih <;> cases ih
        · rw [if_neg e] at ih ⊢
          cases f : List.find? (fun x => x.key.isStr y) (putL nm hs (Value.str nm t) v r) with
          | some z =>
            rw [f] at ih
            cases f' : List.find? (fun x => x.key.isStr y) r with
            | some z' => rw [f'] at ih; exact ih
            | none => rw [f'] at ih; dsimp only at ih; split at ih <;> cases ih
          | none =>
            rw [f] at ih
            cases f' : List.find? (fun x => x.key.isStr y) r with
            | some z' => rw [f'] at ih; dsimp only at ih; split at ih <;> cases ih
            | none =>
              rw [f'] at ih
              dsimp only at ih ⊢
              by_cases hx : x.refKey = true
              · simp [hx]
              · simpa [hx] using ih
theorem putL_len {nm : Str} {hs : Int} {k v : Value} : ∀ {es : List DictEntry}, (putL nm hs k v es).length ≤ es.length + 1
  | [] => Nat.le_refl _
  | x :: r => by
    unfold putL
    split
    · simp
    · simpa using putL_len (es := r)
noncomputable def setOk (K : Frag) (C : Addr) (name : Str) : Bool := findIn K (.ref C) "__setattr__" == some (some (.builtin "object.__setattr__")) && (plainOver K C && (takerIn K C name == some none && hasDictIn K C))
theorem set_own {x dx C : Addr} {ox : Obj} {es : List DictEntry} {n : Nat} {name : Str} {v : Value} {s : Shared} {Q : Unit → Shared → Prop} {E : Value → Shared → Prop} (X : (KF w.params).In s.heap) (I : PySem.W.InstAt s.heap x ox C (some (PySem.W.dictOf es n))) (hd : ox.dict = some dx)
    (ok : setOk (KF w.params) C name = true) (hl : (getL name es).isSome = true) (hz : es.length < 1000)
    (k : ∀ h' es' n' tk, h'.get? dx = some (PySem.W.dictOf es' n') → Heap.SameBut dx s.heap h' → es'.length ≤ es.length + 1 → (∀ y, getL y es' = if y = name then some (some v) else getL y es) → Q () { s with heap := h', toks := tk }) : wpAny (model prg w) A (setAttr (.ref x) name v) Q E s := by
  unfold setOk at ok
  obtain ⟨k1, ok⟩ := Bool.and_eq_true_iff.mp ok
  obtain ⟨k2, ok⟩ := Bool.and_eq_true_iff.mp ok
  obtain ⟨k3, k4⟩ := Bool.and_eq_true_iff.mp ok
  refine set_plain X I (beq_iff_eq.mp k1) (osa_open (s := { s with toks := s.toks + 1 }) X I k2 (beq_iff_eq.mp k3) fun b => ?_)
  obtain ⟨cd, hc, hd'⟩ := any_some k4
  have D := I.dict
  obtain ⟨hx, hcl, hn, -⟩ := I
  obtain ⟨oc, odi, oda, osl⟩ := ox
  dsimp only at hcl hd
  subst hcl hd
  have D : s.heap.get? dx = some (PySem.W.dictOf es n) := D
  refine wpAny_bind (wpAny_pure ?_)
  refine wpAny_bind (wpAny_bind (wpAny_loadPart hx (wpAny_bind ((looks_clsIn X hc).here (s := { s with toks := s.toks + 1 }) ?_))))
  rw [hd']
  refine wpAny_pure (a := some dx) (wpAny_bind (wpAny_pure (wpAny_bind ?_)))
  unfold nsSet
  refine wpAny_bind (wpAny_bind (wpAny_askSetting (wpAny_pure (wpAny_bind (wpAny_mkText (wpAny_bind (wpAny_loadPart D ?_)))))))
  dsimp only
  have c : (!es.toArray.any (·.key.isStr name) && es.toArray.any (·.refKey)) = false := by
    rw [List.any_toArray, List.any_toArray]
    unfold getL at hl
    split at hl
    · rename_i en he
      rw [List.any_eq_true.mpr ⟨en, List.mem_of_find?_eq_some he, List.find?_some he⟩]; rfl
    · split at hl
      · cases hl
      · rename_i z; rw [Bool.not_eq_true] at z; rw [z, Bool.and_false]
  rw [aRefKeyMayBeTheName_at, c]
  have e : ∀ hsh key, Obj.putName name hsh key v (PySem.W.dictOf es n) = PySem.W.dictOf (putL name hsh key v es) (putN name es n) := fun hsh key => putName_dict name hsh key v es n
  refine wpAny_updatePart D ?_
  have hsb := Heap.SameBut.update s.heap dx (Obj.putName name (PyData.keyHash w.params name) (.str name (s.toks + 1)) v)
  have at' : (s.heap.update dx (Obj.putName name (PyData.keyHash w.params name) (.str name (s.toks + 1)) v)).get? dx = some (PySem.W.dictOf (putL name (PyData.keyHash w.params name) (.str name (s.toks + 1)) v es) (putN name es n)) := by
    refine Heap.get?_update_self _ D ?_ |>.trans ?_
    · rw [e]; rfl
    · rw [e]
  have len := putL_len (nm := name) (hs := PyData.keyHash w.params name) (k := .str name (s.toks + 1)) (v := v) (es := es)
  refine wpAny_bind (wpAny_lookBehind at' (pastItsLine_dict (by rw [List.size_toArray, sizeLine_eq]; omega)) ?_)
  exact wpAny_pure (k _ _ _ _ at' hsb len fun y => getL_put)
theorem Rm.made {A : Around} {k : Nat} {C : Addr} {vs : List Value} (r : Rm A (k + 1)) : Rm (A.under (.builtin "type.__call__" ⟨.ref C :: vs, []⟩)) k := ⟨r.1, by have := r.2.1; show A.depth + 1 + k < _; omega, by have := r.2.2; show A.units + 1 + 8 * k + 200 < _; omega⟩
noncomputable def newOk (K : Frag) (C fI : Addr) : Bool := makesIn K C && (findIn K (.ref C) "__init__" == some (some (.ref fI)) && typeIn K (.ref fI) == some (.type "function"))
theorem Mx.inst {C fI : Addr} {k : Nat} {vs : List Value} {R : Value → Heap → Prop} (g : Gd w mg mb h) (mk : newOk (KF w.params) C fI = true) (hm : Rm A (k + 1))
    (init : ∀ A' h2 x dx, Rm A' k → h.get? x = none → h.get? dx = none → x ≠ dx → Ext h h2 → h2.get? x = some (instObj C dx) → h2.get? dx = some (PySem.W.dictOf [] 0) → Cx w A' h2 fI (.ref x :: vs) (fun v h' => v = .none ∧ R (.ref x) h')) : Mx w A h (PySem.call (.ref C) vs) R := fun s Q E he kq => by
  subst he
  obtain ⟨m1, mk⟩ := Bool.and_eq_true_iff.mp mk
  obtain ⟨m2, m3⟩ := Bool.and_eq_true_iff.mp mk
  obtain ⟨hh, gg, d, t, ost⟩ := s
  dsimp only at g init
  have hn : ∀ b, hh.objs.size ≤ b → hh.get? b = none := fun b hb => by
    cases q : hh.get? b with
    | none => rfl
    | some o => exact absurd (Heap.lt_size q) (Nat.not_lt.mpr hb)
  refine wpAny_call (make_core (makes_of g.X m1) (looks_findIn g.X (beq_iff_eq.mp m2)) (fun self => bind_fn g.X self (beq_iff_eq.mp m3)) (.inl rfl) ?_)
  have e1 : Ext hh (hh.push emptyDict) := Ext.push _ _
  have e2 : Ext (hh.push emptyDict) ((hh.push emptyDict).push (instObj C hh.objs.size)) := Ext.push _ _
  refine init _ _ (hh.objs.size + 1) hh.objs.size hm.made (hn _ (Nat.le_succ _)) (hn _ (Nat.le_refl _)) (Nat.succ_ne_self _) (e1.trans e2) ?_ (e2 _ _ (Heap.get?_push_size _ rfl)) ⟨(hh.push emptyDict).push (instObj C hh.objs.size), gg, d, t, ost⟩ _ rfl (fun v h' tk p => ⟨p.1, kq _ h' tk p.2⟩)
  rw [← Heap.size_push hh emptyDict]
  exact Heap.get?_push_size _ rfl
noncomputable def ItAt (W : List Addr) (h : Heap) (l : Addr) : Option (List D) → Prop
  | some ds => OL W h l ds
  | none => h.get? l = some emptyDict
theorem ItAt.to {W' : List Addr} {h' : Heap} {l : Addr} {o : Option (List D)} (x : ItAt W h l o) (t : To W h W' h') (q : ∀ o, h.get? l = some o → h'.get? l = some o) : ItAt W' h' l o := by
  cases o with
  | some ds => exact OL.to x t q
  | none => exact q _ x
theorem ItAt.some {l : Addr} {o : Option (List D)} (x : ItAt W h l o) : h.get? l ≠ none := by
  cases o with
  | some ds => obtain ⟨vs, ⟨n, e⟩, _⟩ := x; rw [e]; exact fun z => nomatch z
  | none => rw [x]; exact fun z => nomatch z
structure Ini (hb : Heap) (W : List Addr) (env : Env) (vars : List (Str × D)) (x dx C : Addr) (ls : List (Addr × Option (List D))) (es : List DictEntry) (h : Heap) : Prop where
  F : Fm hb W env vars h
  hx : h.get? x = some (instObj C dx)
  hd : ∃ n, h.get? dx = some (PySem.W.dictOf es n)
  dW : dx ∈ W
  dF : dx ∉ frA env
  d0 : hb.get? dx = none
  xd : x ≠ dx
  xW : x ∉ W
  own : ∀ p ∈ ls, ItAt W h p.1 p.2 ∧ p.1 ∈ W ∧ p.1 ∉ frA env ∧ hb.get? p.1 = none ∧ p.1 ≠ dx
  nd : (ls.map (·.1)).Nodup
variable {x dx C : Addr} {ls : List (Addr × Option (List D))} {es : List DictEntry}
theorem Ini.up {h' : Heap} (I : Ini hb W env vars x dx C ls es h) (e : Ext h h') : Ini hb W env vars x dx C ls es h' :=
  ⟨I.F.up e, e _ _ I.hx, let ⟨n, q⟩ := I.hd; ⟨n, e _ _ q⟩, I.dW, I.dF, I.d0, I.xd, I.xW, fun p hp => let ⟨a, b⟩ := I.own p hp; ⟨a.to (To.ext e) fun o q => e _ _ q, b⟩, I.nd⟩
theorem Ini.inst (I : Ini hb W env vars x dx C ls es h) : ∃ n, PySem.W.InstAt h x (instObj C dx) C (some (PySem.W.dictOf es n)) := let ⟨n, q⟩ := I.hd; ⟨n, ⟨I.hx, rfl, rfl, q⟩⟩
theorem Xs.ini {value : Expr} {name : Str} {px ap pos : Pos} {P : Value → List Addr → List (Addr × Option (List D)) → Heap → Prop} (g : Gd w mg mb hb)
    (m : Mx w A h (eval value env) (fun v h1 => ∃ W' ls', Ini hb W' env vars x dx C ls' es h1 ∧ P v W' ls' h1))
    (ok : setOk (KF w.params) C name = true) (hl : (getL name es).isSome = true) (hz : es.length < 1000)
    (k : ∀ v W' ls' es' h1 h', P v W' ls' h1 → Ini hb W' env vars x dx C ls' es h1 → Mv [dx] h1 h' → Ini hb W' env vars x dx C ls' es' h' → es'.length ≤ es.length + 1 → (∀ y, getL y es' = if y = name then some (some v) else getL y es) → Xs w A env PN PR h' rest)
    (hself : vars.lookup (S "self") = some (.obj x) := by rfl) (kd : locOk env (S "self") = true := by rfl)
    (hs : swapsWith value (some (.Attribute (.Name (S "self") px) name ap)) pos.line env = pure false := by rfl) : Xs w A env PN PR h (.Assign [.Attribute (.Name (S "self") px) name ap] value pos :: rest) := fun s Q E he kn kr => by
  refine wpAny_execs_cons (plainObj_wpAny_Assign_Attribute (m s _ E he fun v h1 tk1 ⟨W', ls', I, p⟩ => ?_) hs)
  refine (I.F.var (w := w) (A := A) (pos := px) hself kd (by decide)) { s with heap := h1, toks := tk1 } _ _ (Ext.refl _) fun ov h2 tk2 x2 r2 => ?_
  cases r2
  have I2 := I.up x2
  obtain ⟨n, inst⟩ := I2.inst
  refine set_own (s := { s with heap := h2, toks := tk2 }) (g.X.keeps I2.F.ext) inst rfl ok hl hz fun h3 es' n' tk3 d3 sb3 len3 get3 => ?_
  have m3 : Mv [dx] h2 h3 := Mv.one sb3 (by rw [d3]; exact fun z => nomatch z)
  have inW : ∀ b ∈ [dx], b ∈ W' := fun b hb => by rw [List.mem_singleton.mp hb]; exact I2.dW
  refine k v W' ls' es' h1 h3 p I (x2.mv.trans m3) ⟨I2.F.move m3 fun b hb => by rw [List.mem_singleton.mp hb]; exact ⟨I2.dW, I2.dF, I2.d0⟩, m3.off _ _ (fun z => I2.xd (List.mem_singleton.mp z)) I2.hx, ⟨n', d3⟩, I2.dW, I2.dF, I2.d0, I2.xd, I2.xW, fun p hp => ?_, I2.nd⟩ len3 get3 _ Q E rfl kn kr
  obtain ⟨a, b, c, d, e⟩ := I2.own p hp
  exact ⟨a.to (To.mv m3 inW) fun o q => m3.off _ _ (fun z => e (List.mem_singleton.mp z)) q, b, c, d, e⟩
theorem lk425 : (KF w.params).lookup 425 = some o425 := by kernel_rfl
noncomputable abbrev eI (L : Addr) : Env := envOfC (S "StepChecker.__init__") (dScope (mem 14 0)) L 425 (.ref 424)
theorem checker_new {k : Nat} {ds1 ds2 ds3 : List D} {b : Addr} {vs : List Value} (g : Gd w mg mb h) (hm : Rm A (k + 2)) (hdm : Dm H h) (rd : RdAll H h [.obj b, .list ds1, .list ds2, .list ds3] vs) :
    Mx w A h (PySem.call (.ref 543) vs) (fun v h' => ∃ c, v = .ref c ∧ Ext h h' ∧ ∀ h2, (∀ b o, h.get? b = none → h'.get? b = some o → h2.get? b = some o) → Ck h2 c b) := by
  refine Mx.inst (fI := 425) g (by kernel_rfl) hm fun A' h2 x dx hm' nx nd xd e2 hx hd => ?_
  have rd2 : RdAll (dx :: H) h2 [.obj x, .obj b, .list ds1, .list ds2, .list ds3] (.ref x :: vs) := ⟨_, _, rfl, rfl, rd.more e2 fun c hc => (List.mem_cons.mp hc).elim (fun z => .inr (z ▸ nd)) .inl⟩
  have dm2 : Dm (dx :: H) h2 := fun c hc => (List.mem_cons.mp hc).elim (fun z => by rw [z, hd]; exact fun z => nomatch z) (hdm.ext e2 c)
  refine Cx.enter (ps := [S "self", S "bank", S "names", S "assertions", S "assumptions"]) (h0 := h) g e2 hm' dm2 rd2 lk425 (by kernel_rfl) (args5 fun _ _ _ _ _ => rfl) rfl (fun n => rfl) (by decide) rfl rfl rfl (fun L A'' h3 r F x3 fr => ?_)
  conv => arg 7; whnf
  refine Xs.hide fun PN PR kn kr => ?_
  obtain ⟨vb, v1, rfl, rb, v2, v3, rfl, r1, v4, v5, rfl, r2, v6, v7, rfl, r3, rfl⟩ := rd
  cases rb
  obtain ⟨n1, w1, rfl, -⟩ := r1
  obtain ⟨n2, w2, rfl, -⟩ := r2
  obtain ⟨n3, w3, rfl, -⟩ := r3
  have xH : x ∉ dx :: H := fun z => (List.mem_cons.mp z).elim xd fun z => hdm _ z nx
  have xF : ∀ c, h2.get? c ≠ none → c ∉ frA (eI L) := fun c hc z => hc (fr c z)
  have dL : dx ∉ frA (eI L) := xF dx (by rw [hd]; exact fun z => nomatch z)
  have xL : x ∉ frA (eI L) := xF x (by rw [hx]; exact fun z => nomatch z)
  have I : Ini h _ _ _ x dx 543 [] [] h3 := ⟨F, x3 _ _ hx, ⟨0, x3 _ _ hd⟩, List.mem_append_right _ (.head _), dL, nd, xd, fun z => (List.mem_append.mp z).elim xL xH, fun p hp => absurd hp List.not_mem_nil, List.nodup_nil⟩
  have lst : ∀ {W : List Addr} {h : Heap} {ds : List D} {v : Value}, Rd W h (.list ds) v → ∃ n, v = .ref n := fun ⟨a, _, e, _⟩ => ⟨a, e⟩
  refine Xs.ini (P := fun v _ ls' _ => v = .ref b ∧ ls' = []) g ((I.F.var (d := .obj b)).mx.imp fun v h5 p => ⟨_, _, I.up p.1, p.2, rfl⟩) (by kernel_rfl) rfl (by decide) fun v W1 ls1 es1 h4' h4 P1 _ _ I1 l1 q1 => ?_
  obtain ⟨rfl, rfl⟩ := P1
  have z1 : es1.length ≤ 1 := l1
  refine Xs.ini (P := fun v _ ls' _ => (∃ n, v = .ref n) ∧ ls' = []) g ((I1.F.var (d := .list ds1)).mx.imp fun v h5 p => ⟨_, _, I1.up p.1, lst p.2, rfl⟩) (by kernel_rfl) (by rw [q1, if_neg (by decide)]; rfl) (Nat.lt_of_le_of_lt z1 (by decide)) fun v W2 ls2 es2 h5' h5 P2 _ _ I2 l2 q2 => ?_
  obtain ⟨⟨m1, rfl⟩, rfl⟩ := P2
  have z2 : es2.length ≤ 2 := Nat.le_trans l2 (Nat.succ_le_succ z1)
  refine Xs.ini (P := fun v _ ls' _ => (∃ n, v = .ref n) ∧ ls' = []) g ((I2.F.var (d := .list ds2)).mx.imp fun v h5 p => ⟨_, _, I2.up p.1, lst p.2, rfl⟩) (by kernel_rfl) (by rw [q2, if_neg (by decide), q1, if_neg (by decide)]; rfl) (Nat.lt_of_le_of_lt z2 (by decide)) fun v W3 ls3 es3 h6' h6 P3 _ _ I3 l3 q3 => ?_
  obtain ⟨⟨m2, rfl⟩, rfl⟩ := P3
  have z3 : es3.length ≤ 3 := Nat.le_trans l3 (Nat.succ_le_succ z2)
  refine Xs.ini (P := fun v _ ls' _ => (∃ n, v = .ref n) ∧ ls' = []) g ((I3.F.var (d := .list ds3)).mx.imp fun v h5 p => ⟨_, _, I3.up p.1, lst p.2, rfl⟩) (by kernel_rfl) (by rw [q3, if_neg (by decide), q2, if_neg (by decide), q1, if_neg (by decide)]; rfl) (Nat.lt_of_le_of_lt z3 (by decide)) fun v W4 ls4 es4 h7' h7 P4 _ _ I4 l4 q4 => ?_
  obtain ⟨⟨m3, rfl⟩, rfl⟩ := P4
  obtain ⟨n, q⟩ := I4.hd
  refine Xs.nil (kn _ ⟨rfl, x, rfl, I4.F.ext, fun h2 mv => ⟨m1, m2, m3, _, es4, n, ⟨mv _ _ nx I4.hx, rfl, rfl, mv _ _ nd q⟩, fun name => ?_⟩⟩)
  rw [q4, q3, q2, q1]
  have bq : ∀ {y : Str}, name ≠ y → (name == y) = false := fun e => beq_eq_false_iff_ne.mpr e
  by_cases e4 : name = S "assumptions"
  · subst e4; rfl
  by_cases e3 : name = S "assertions"
  · subst e3; rfl
  by_cases e2 : name = S "names"
  · subst e2; rfl
  by_cases e1 : name = S "bank"
  · subst e1; rfl
  rw [if_neg e4, if_neg e3, if_neg e2, if_neg e1]
  simp only [caf, List.lookup_cons, bq e1, bq e2, bq e3, bq e4, List.lookup_nil]
  rfl
section
variable {x dx C : Addr} {ls : List (Addr × Option (List D))} {es : List DictEntry}
mutual
theorem Rd.dict {o : Obj} (hd : h.get? dx = some o) (hc : o.cls = .type "dict") : ∀ {d : D} {v : Value}, d.noTab = true → Rd H h d v → Rd (dx :: H) h d v
  | .int _, _, _, r => r
  | .str _, _, _, r => r
  | .bool _, _, _, r => r
  | .none, _, _, r => r
  | .obj _, _, _, r => r
  | .typ _, _, _, r => r
  | .tab _, _, n, _ => nomatch n
  | .list l, _, n, ⟨a, vs, e, na, ⟨o', ho, hc', r⟩, al⟩ => ⟨a, vs, e, fun z => (List.mem_cons.mp z).elim (fun z => by rw [z, hd] at ho; cases ho; rw [hc] at hc'; exact absurd hc' (by decide)) na, ⟨o', ho, hc', r⟩, RdAll.dict hd hc n al⟩
  | .tup l, _, n, ⟨a, vs, e, na, ⟨o', ho, hc', r⟩, al⟩ => ⟨a, vs, e, fun z => (List.mem_cons.mp z).elim (fun z => by rw [z, hd] at ho; cases ho; rw [hc] at hc'; exact absurd hc' (by decide)) na, ⟨o', ho, hc', r⟩, RdAll.dict hd hc n al⟩
theorem RdAll.dict {o : Obj} (hd : h.get? dx = some o) (hc : o.cls = .type "dict") : ∀ {ds : List D} {vs : List Value}, noTabs ds = true → RdAll H h ds vs → RdAll (dx :: H) h ds vs
  | [], _, _, r => r
  | d :: ds, _, n, ⟨v, r, e, a, b⟩ => by
    obtain ⟨n1, n2⟩ := Bool.and_eq_true_iff.mp n
    exact ⟨v, r, e, Rd.dict hd hc n1 a, RdAll.dict hd hc n2 b⟩
end
theorem noTabs_ints (l : List Int) : noTabs (l.map D.int) = true := by
  induction l with
  | nil => rfl
  | cons a l ih => exact ih
theorem noTabs_map {f : Key → D} (q : ∀ k, (f k).noTab = true) : ∀ l : List Key, noTabs (l.map f) = true
  | [] => rfl
  | k :: l => by show ((f k).noTab && noTabs (l.map f)) = true; rw [q k, noTabs_map q l]; rfl
theorem PL.attr {l : Addr} {ds : List D} {h' : Heap} {o : Obj} (p : PL V H h l ds) (n : noTabs ds = true) (hd : h.get? dx = some o) (hc : o.cls = .type "dict") (m : Mv [dx] h h') : PL V H h' l ds := by
  obtain ⟨nl, vs, ⟨k, e⟩, r⟩ := p
  have ne : l ≠ dx := fun z => by rw [z, hd] at e; cases e; exact absurd (Value.type.inj hc) (by decide)
  exact ⟨nl, vs, ⟨k, m.off _ _ (fun z => ne (List.mem_singleton.mp z)) e⟩, ((RdAll.dict hd hc n r).to (To.mv m fun b hb => by rw [List.mem_singleton.mp hb]; exact .head _)).to (To.less fun b hb => .tail _ hb)⟩
theorem Bk0.attr {m m' : Nat} {h' : Heap} {o : Obj} (b : Bk0 w m H a st h) (hd : h.get? dx = some o) (hc : o.cls = .type "dict") (mv : Mv [dx] h h') (nV : dx ∉ a.V) (ob : ObH (a.V ++ H) h' a.b 408 (a.afm m')) : Bk0 w m' H a st h' := by
  have n2 : ∀ k : Key, (D.tup (k.2.1.map .int)).noTab = true := fun k => noTabs_ints _
  have kn : ∀ k : Key, k.d.noTab = true := fun k => by
    show (true && ((noTabs (k.2.1.map .int)) && (true && (true && true)))) = true
    rw [noTabs_ints]; rfl
  have e1 : noTabs (opsD st.ts) = true := by show (true && noTabs _) = true; rw [noTabs_map (fun _ => rfl)]; rfl
  have e2 : noTabs (argsD st.ts) = true := by show (true && noTabs _) = true; rw [noTabs_map n2]; rfl
  have e3 : noTabs (sortsD st.ts) = true := by show (true && noTabs _) = true; rw [noTabs_map (fun _ => rfl)]; rfl
  have e4 : noTabs (datasD st.ts) = true := by show (true && noTabs _) = true; rw [noTabs_map (fun _ => rfl)]; rfl
  obtain ⟨d1, l1, p1⟩ := b.sn
  obtain ⟨d2, l2, p2⟩ := b.sw
  obtain ⟨d3, l3, p3⟩ := b.fn
  obtain ⟨d4, l4, p4⟩ := b.fa
  obtain ⟨d5, l5, p5⟩ := b.fr
  refine ⟨ob, b.ops.attr e1 hd hc mv, b.args.attr e2 hd hc mv, b.sorts.attr e3 hd hc mv, b.datas.attr e4 hd hc mv, ⟨d1, l1, p1.attr l1.2 hd hc mv⟩, ⟨d2, l2, p2.attr l2.2 hd hc mv⟩, ⟨d3, l3, p3.attr l3.2 hd hc mv⟩, ⟨d4, l4, p4.attr l4.2 hd hc mv⟩, ⟨d5, l5, p5.attr l5.2 hd hc mv⟩, ?_, b.ok, b.sm, b.nd, b.sys⟩
  obtain ⟨n, xs, ⟨o', es, ep, q1, q2, q3, q4, q5, q6⟩, nk, r⟩ := b.num
  have nn : a.nu ≠ dx := fun z => nV (z ▸ List.mem_of_getElem? (i := 4) rfl)
  have r' : ∀ y ∈ xs, Rd (a.V ++ H) h' y.1.d (.ref y.2.1) := fun y hy => ((Rd.dict hd hc (kn _) (r y hy)).to (To.mv mv fun b hb => by rw [List.mem_singleton.mp hb]; exact .head _)).to (To.less fun b hb => .tail _ hb)
  refine ⟨n, xs, ⟨o', es, ep, mv.off _ _ (fun z => nn (List.mem_singleton.mp z)) q1, q2, q3, q4, fun y hy => ?_, q6⟩, nk, r'⟩
  obtain ⟨a', ea, ka⟩ := Key.at_of (b.ok y.1 (nk.1 ▸ List.mem_map_of_mem (f := (·.1)) hy)) (r' y hy)
  cases ea; exact ka
theorem Ini.hide {l : Addr} {h' : Heap} {it : Option (List D)} (I : Ini hb W env vars x dx C ls es h) (e : Ext h h') (n : h.get? l = none) (at' : ItAt (l :: W) h' l it) : Ini hb (l :: W) env vars x dx C ((l, it) :: ls) es h' := by
  have nW : l ∉ W := fun z => I.F.dm _ z n
  have n' := at'.some
  have F := I.F.hide (N := [l]) e (fun b hb => by rw [List.mem_singleton.mp hb]; exact n) (fun b hb => by rw [List.mem_singleton.mp hb]; exact n')
  refine ⟨F, e _ _ I.hx, let ⟨n, q⟩ := I.hd; ⟨n, e _ _ q⟩, .tail _ I.dW, I.dF, I.d0, I.xd, fun z => ?_, fun p hp => ?_, ?_⟩
  · rcases List.mem_cons.mp z with z | z
    · rw [← z, I.hx] at n; cases n
    · exact I.xW z
  · rcases List.mem_cons.mp hp with rfl | hp
    · refine ⟨at', .head _, fun z => nW (I.F.inW _ z), I.F.ext.gone n, fun z => ?_⟩
      have z : l = dx := z
      obtain ⟨k, q⟩ := I.hd
      rw [← z, n] at q; cases q
    · obtain ⟨a, b, c⟩ := I.own p hp
      exact ⟨a.to (To.more e fun b hb => (List.mem_cons.mp hb).elim (fun z => .inr (z ▸ n)) .inl) fun o q => e _ _ q, .tail _ b, c⟩
  · rw [List.map_cons, List.nodup_cons]
    refine ⟨fun z => ?_, I.nd⟩
    obtain ⟨p, hp, e⟩ := List.mem_map.mp z
    exact (I.own p hp).1.some (e ▸ n)
theorem Mx.iniList {el : List Expr} {ds : List D} {pos : Pos} (I : Ini hb W env vars x dx C ls es h) (as : Es w A W env h el ds) (hz : ds.length ≤ 1000 := by decide) :
    Mx w A h (eval (.List el pos) env) (fun v h1 => ∃ W' ls', Ini hb W' env vars x dx C ls' es h1 ∧ ∃ l, v = .ref l ∧ W' = l :: W ∧ ls' = (l, some ds) :: ls) := fun s Q E he k => by
  subst he
  refine List_ (as.go s _ E (Ext.refl _) fun vs h1 tk x1 r => wpAny_newObj_type (k _ _ _ ⟨_, _, (I.up x1).hide (l := h1.objs.size) (it := some ds) (Ext.push _ _) (get_new _) ?_, _, rfl, rfl, rfl⟩) (by show vs.toArray.size ≤ sizeLine; rw [List.size_toArray, r.length]; exact Nat.le_trans hz (by decide)))
  refine ⟨vs.toArray, ⟨_, Heap.get?_push_size _ rfl⟩, ?_⟩
  exact r.more (Ext.push _ _) fun b hb => (List.mem_cons.mp hb).elim (fun z => .inr (z ▸ get_new _)) .inl
theorem Mx.iniDict {pos : Pos} (g : Gd w mg mb hb) (I : Ini hb W env vars x dx C ls es h) :
    Mx w A h (eval (.Dict [] [] pos) env) (fun v h1 => ∃ W' ls', Ini hb W' env vars x dx C ls' es h1 ∧ ∃ l, v = .ref l ∧ W' = l :: W ∧ ls' = (l, none) :: ls ∧ (l == sysModules) = false) := fun s Q E he k => by
  subst he
  exact wpAny_Dict_empty (k _ _ _ ⟨_, _, I.hide (l := s.heap.objs.size) (it := none) (Ext.push _ _) (get_new _) (Heap.get?_push_size _ rfl), _, rfl, rfl, rfl, sys_new (g.ext I.F.ext) (get_new _) (Nat.le_refl _)⟩)
theorem Mx.iniInt {k : Int} {n : Nat} {pos : Pos} (I : Ini hb W env vars x dx C ls es h) :
    Mx w A h (eval (.Constant (.int k) n pos) env) (fun v h1 => ∃ W' ls', Ini hb W' env vars x dx C ls' es h1 ∧ (∃ t, v = .int k t) ∧ W' = W ∧ ls' = ls) := (Ev.int (H := W)).mx.imp fun v h1 p => ⟨_, _, I.up p.1, p.2, rfl, rfl⟩
theorem lk104 : (KF w.params).lookup 104 = some o104 := by kernel_rfl
end
section
variable {x dx C : Addr} {ls : List (Addr × Option (List D))} {es : List DictEntry}
theorem getL_step {es es' : List DictEntry} {l : List (Str × Value)} {nm : Str} {v : Value} (G : ∀ y, getL y es = some (l.lookup y)) (q : ∀ y, getL y es' = if y = nm then some (some v) else getL y es) : ∀ y, getL y es' = some (((nm, v) :: l).lookup y) := fun y => by
  rw [q y, List.lookup_cons]
  by_cases e : y = nm
  · rw [if_pos e, beq_iff_eq.mpr e]
  · rw [if_neg e, beq_eq_false_iff_ne.mpr e, G y]
theorem lookup_mem {α : Type} {y : Str} {v : α} : ∀ {l : List (Str × α)}, (l.map (·.1)).Nodup → (y, v) ∈ l → l.lookup y = some v
  | [], _, m => nomatch m
  | (k, u) :: r, nd, m => by
    rw [List.map_cons, List.nodup_cons] at nd
    rw [List.lookup_cons]
    rcases List.mem_cons.mp m with e | m
    · cases e; simp
    · have : (y == k) = false := beq_eq_false_iff_ne.mpr fun z => nd.1 (z ▸ List.mem_map_of_mem (f := (·.1)) m)
      rw [this]; exact lookup_mem nd.2 m
theorem lookup_rev {α : Type} {l : List (Str × α)} (nd : (l.map (·.1)).Nodup) (y : Str) : l.reverse.lookup y = l.lookup y := by
  cases q : l.lookup y with
  | some v => exact lookup_mem (by rw [List.map_reverse]; exact (List.reverse_perm _).nodup_iff.mpr nd) (List.mem_reverse.mpr (mem_lookup q))
  | none =>
    cases q' : l.reverse.lookup y with
    | none => rfl
    | some v => rw [lookup_mem nd (List.mem_reverse.mp (mem_lookup q'))] at q; cases q
theorem Ini.moveV {B : List Addr} {h' : Heap} (I : Ini hb W env vars x dx C ls es h) (m : Mv B h h') (q : ∀ b ∈ B, b ∈ W ∧ b ∉ frA env ∧ hb.get? b = none ∧ b ≠ dx) : Ini hb W env vars x dx C [] es h' :=
  ⟨I.F.move m fun b hb => ⟨(q b hb).1, (q b hb).2.1, (q b hb).2.2.1⟩, m.off _ _ (fun z => I.xW (q _ z).1) I.hx, let ⟨n, e⟩ := I.hd; ⟨n, m.off _ _ (fun z => (q _ z).2.2.2 rfl) e⟩, I.dW, I.dF, I.d0, I.xd, I.xW, fun p hp => absurd hp List.not_mem_nil, List.nodup_nil⟩
theorem Bk0.re0 {t1 t2 : Nat} (b : Bk0 w 0 H a st h) : Bk0 w 0 H { a with t1 := t1, t2 := t2 } st h := ⟨b.ob, b.ops, b.args, b.sorts, b.datas, b.sn, b.sw, b.fn, b.fa, b.fr, b.num, b.ok, b.sm, b.nd, b.sys⟩
theorem Bk0.re1 {t2 : Nat} (b : Bk0 w 1 H a st h) : Bk0 w 1 H { a with t2 := t2 } st h := ⟨b.ob, b.ops, b.args, b.sorts, b.datas, b.sn, b.sw, b.fn, b.fa, b.fr, b.num, b.ok, b.sm, b.nd, b.sys⟩
noncomputable def trueK : Key := (S "true", [], 0, 0)
noncomputable def falseK : Key := (S "false", [], 0, 0)
noncomputable abbrev eK (L : Addr) : Env := envOfC (S "Bank.__init__") (dScope (mem 10 0)) L 104 (.ref 103)
theorem bank_new {k : Nat} {H : List Addr} (g : Gd w mg mb h) (hm : Rm A (k + 4)) (hH : Dm H h) :
    Mx w A h (PySem.call (.ref 408) []) (fun v h' => ∃ a : BA, v = .ref a.b ∧ Ext h h' ∧ Bk w H a ⟨[trueK, falseK], 3, 0⟩ h' ∧ ∀ b ∈ a.V, h.get? b = none) := by
  refine Mx.inst (fI := 104) (k := k + 3) g (by kernel_rfl) hm fun A' h2 x dx hm' nx nd xd e2 hx hd => ?_
  have dm2 : Dm (dx :: H) h2 := fun c hc => (List.mem_cons.mp hc).elim (fun z => by rw [z, hd]; exact fun z => nomatch z) (hH.ext e2 c)
  have gH : ∀ {c : Addr}, h.get? c = none → c ∉ H := fun e z => hH _ z e
  refine Cx.enter (ps := [S "self"]) (ds := [.obj x]) (H := dx :: H) (h0 := h) (k := k + 2) g e2 hm' dm2 ⟨_, _, rfl, rfl, rfl⟩ lk104 (by kernel_rfl) (args1 fun _ => rfl) rfl (fun n => rfl) (by decide) rfl rfl rfl (fun L A'' h3 r F x3 fr => ?_)
  conv => arg 7; whnf
  refine Xs.hide fun PN PR kn kr => ?_
  have xF : ∀ c, h2.get? c ≠ none → c ∉ frA (eK L) := fun c hc z => hc (fr c z)
  have dL := xF dx (by rw [hd]; exact fun z => nomatch z)
  have xL := xF x (by rw [hx]; exact fun z => nomatch z)
  have I : Ini h _ _ _ x dx 408 [] [] h3 := ⟨F, x3 _ _ hx, ⟨0, x3 _ _ hd⟩, List.mem_append_right _ (.head _), dL, nd, xd, fun z => (List.mem_append.mp z).elim xL fun z => (List.mem_cons.mp z).elim xd (gH nx), fun p hp => absurd hp List.not_mem_nil, List.nodup_nil⟩
  have G0 : ∀ y, getL y [] = some (([] : List (Str × Value)).lookup y) := fun y => rfl
  have so : ∀ {es : List DictEntry} {l : List (Str × Value)} {y : Str}, (∀ y, getL y es = some (l.lookup y)) → (getL y es).isSome = true := fun G => by rw [G]; rfl
  refine Xs.ini g (Mx.iniList I (.cons Ev.str (.cons Ev.str (.cons Ev.str .nil rfl) rfl) rfl)) (by kernel_rfl) (so G0) (by decide) fun v W1 ls1 es1 h4' h4 P1 _ _ I1 l1 q1 => ?_
  obtain ⟨sn, rfl, u1, o1⟩ := P1
  have G1 := getL_step G0 q1
  have z1 : es1.length ≤ 1 := l1
  refine Xs.ini g (Mx.iniList I1 (.cons Ev.int (.cons Ev.int (.cons Ev.int .nil rfl) rfl) rfl)) (by kernel_rfl) (so G1) (Nat.lt_of_le_of_lt z1 (by decide)) fun v W2 ls2 es2 h5' h5 P2 _ _ I2 l2 q2 => ?_
  obtain ⟨sw, rfl, u2, o2⟩ := P2
  have G2 := getL_step G1 q2
  have z2 : es2.length ≤ 2 := Nat.le_trans l2 (Nat.succ_le_succ z1)
  refine Xs.ini g (Mx.iniList I2 .nil) (by kernel_rfl) (so G2) (Nat.lt_of_le_of_lt z2 (by decide)) fun v W3 ls3 es3 h6' h6 P3 _ _ I3 l3 q3 => ?_
  obtain ⟨fn, rfl, u3, o3⟩ := P3
  have G3 := getL_step G2 q3
  have z3 : es3.length ≤ 3 := Nat.le_trans l3 (Nat.succ_le_succ z2)
  refine Xs.ini g (Mx.iniList I3 .nil) (by kernel_rfl) (so G3) (Nat.lt_of_le_of_lt z3 (by decide)) fun v W4 ls4 es4 h7' h7 P4 _ _ I4 l4 q4 => ?_
  obtain ⟨fa, rfl, u4, o4⟩ := P4
  have G4 := getL_step G3 q4
  have z4 : es4.length ≤ 4 := Nat.le_trans l4 (Nat.succ_le_succ z3)
  refine Xs.ini g (Mx.iniList I4 .nil) (by kernel_rfl) (so G4) (Nat.lt_of_le_of_lt z4 (by decide)) fun v W5 ls5 es5 h8' h8 P5 _ _ I5 l5 q5 => ?_
  obtain ⟨fr', rfl, u5, o5⟩ := P5
  have G5 := getL_step G4 q5
  have z5 : es5.length ≤ 5 := Nat.le_trans l5 (Nat.succ_le_succ z4)
  refine Xs.ini g (Mx.iniInt I5) (by kernel_rfl) (so G5) (Nat.lt_of_le_of_lt z5 (by decide)) fun v W6 ls6 es6 h9' h9 P6 _ _ I6 l6 q6 => ?_
  obtain ⟨⟨t0, rfl⟩, u6, o6⟩ := P6
  have G6 := getL_step G5 q6
  have z6 : es6.length ≤ 6 := Nat.le_trans l6 (Nat.succ_le_succ z5)
  refine Xs.ini g (Mx.iniList I6 (.cons Ev.str .nil rfl)) (by kernel_rfl) (so G6) (Nat.lt_of_le_of_lt z6 (by decide)) fun v W7 ls7 es7 h10' h10 P7 _ _ I7 l7 q7 => ?_
  obtain ⟨to, rfl, u7, o7⟩ := P7
  have G7 := getL_step G6 q7
  have z7 : es7.length ≤ 7 := Nat.le_trans l7 (Nat.succ_le_succ z6)
  refine Xs.ini g (Mx.iniList I7 (.cons (Ev.tup I7.F.dm .nil) .nil rfl)) (by kernel_rfl) (so G7) (Nat.lt_of_le_of_lt z7 (by decide)) fun v W8 ls8 es8 h11' h11 P8 _ _ I8 l8 q8 => ?_
  obtain ⟨ta, rfl, u8, o8⟩ := P8
  have G8 := getL_step G7 q8
  have z8 : es8.length ≤ 8 := Nat.le_trans l8 (Nat.succ_le_succ z7)
  refine Xs.ini g (Mx.iniList I8 (.cons (Ev.BOOL (g.ext I8.F.ext)) .nil rfl)) (by kernel_rfl) (so G8) (Nat.lt_of_le_of_lt z8 (by decide)) fun v W9 ls9 es9 h12' h12 P9 _ _ I9 l9 q9 => ?_
  obtain ⟨ts, rfl, u9, o9⟩ := P9
  have G9 := getL_step G8 q9
  have z9 : es9.length ≤ 9 := Nat.le_trans l9 (Nat.succ_le_succ z8)
  refine Xs.ini g (Mx.iniList I9 (.cons Ev.int .nil rfl)) (by kernel_rfl) (so G9) (Nat.lt_of_le_of_lt z9 (by decide)) fun v W10 ls10 es10 h13' h13 P10 _ _ I10 l10 q10 => ?_
  obtain ⟨td, rfl, u10, o10⟩ := P10
  have G10 := getL_step G9 q10
  have z10 : es10.length ≤ 10 := Nat.le_trans l10 (Nat.succ_le_succ z9)
  refine Xs.ini g (Mx.iniDict g I10) (by kernel_rfl) (so G10) (Nat.lt_of_le_of_lt z10 (by decide)) fun v W11 ls11 es11 h14' h14 P11 _ _ I11 l11 q11 => ?_
  obtain ⟨nu, rfl, u11, o11, sys⟩ := P11
  rw [u10, u9, u8, u7, u6, u5, u4, u3, u2, u1] at u11
  rw [o10, o9, o8, o7, o6, o5, o4, o3, o2, o1] at o11
  clear u1 u2 u3 u4 u5 u6 u7 u8 u9 u10 o1 o2 o3 o4 o5 o6 o7 o8 o9 o10 I1 I2 I3 I4 I5 I6 I7 I8 I9 I10
  subst u11 o11
  have G11 := getL_step G10 q11
  have z11 : es11.length ≤ 11 := Nat.le_trans l11 (Nat.succ_le_succ z10)
  have i : ∀ (i : Nat) {p : Addr × Option (List D)}, [(nu, none), (td, some [D.int 0]), (ts, some [.int 0]), (ta, some [.tup []]), (to, some [.str (S "")]), (fr', some []), (fa, some []), (fn, some []), (sw, some [.int 0, .int 0, .int 0]), (sn, some [.str (S "Bool"), .str (S "Int"), .str (S "Real")])][i]? = some p → ItAt (nu :: td :: ts :: ta :: to :: fr' :: fa :: fn :: sw :: sn :: (frA (eK L) ++ dx :: H)) h14 p.1 p.2 ∧ p.1 ∈ nu :: td :: ts :: ta :: to :: fr' :: fa :: fn :: sw :: sn :: (frA (eK L) ++ dx :: H) ∧ p.1 ∉ frA (eK L) ∧ h.get? p.1 = none ∧ p.1 ≠ dx := fun i p e => I11.own p (List.mem_of_getElem? e)
  have nd11 := I11.nd
  have hV : ∀ b ∈ [to, ta, ts, td, nu, sn, sw, fn, fa, fr'], b ∈ nu :: td :: ts :: ta :: to :: fr' :: fa :: fn :: sw :: sn :: (frA (eK L) ++ dx :: H) ∧ b ∉ frA (eK L) ∧ h.get? b = none ∧ b ≠ dx := fun b hb => by
    simp only [List.mem_cons, List.not_mem_nil, or_false] at hb
    rcases hb with rfl | rfl | rfl | rfl | rfl | rfl | rfl | rfl | rfl | rfl
    · exact (i 4 rfl).2
    · exact (i 3 rfl).2
    · exact (i 2 rfl).2
    · exact (i 1 rfl).2
    · exact (i 0 rfl).2
    · exact (i 9 rfl).2
    · exact (i 8 rfl).2
    · exact (i 7 rfl).2
    · exact (i 6 rfl).2
    · exact (i 5 rfl).2
  have nV : dx ∉ [to, ta, ts, td, nu, sn, sw, fn, fa, fr'] := fun z => (hV _ z).2.2.2 rfl
  have xV : x ∉ [to, ta, ts, td, nu, sn, sw, fn, fa, fr'] := fun z => I11.xW (hV _ z).1
  have sub : ∀ b ∈ [to, ta, ts, td, nu, sn, sw, fn, fa, fr'] ++ (frA (eK L) ++ H), b ∈ nu :: td :: ts :: ta :: to :: fr' :: fa :: fn :: sw :: sn :: (frA (eK L) ++ dx :: H) := fun b hb => (List.mem_append.mp hb).elim (fun z => (hV b z).1) fun z => (List.mem_append.mp z).elim (fun z => I11.F.inW b z) fun z => by simp [z]
  have nH : ∀ {p : Addr × Option (List D)}, p.1 ∉ frA (eK L) ∧ h.get? p.1 = none ∧ p.1 ≠ dx → p.1 ∉ frA (eK L) ++ H := fun q z => (List.mem_append.mp z).elim q.1 (gH q.2.1)
  have xH : ∀ c, c ∉ [to, ta, ts, td, nu, sn, sw, fn, fa, fr'] → c ∉ frA (eK L) → h.get? c = none → c ∉ [to, ta, ts, td, nu, sn, sw, fn, fa, fr'] ++ (frA (eK L) ++ H) := fun c p q n z => (List.mem_append.mp z).elim p fun z => (List.mem_append.mp z).elim q (gH n)
  obtain ⟨n11, inst11⟩ := I11.inst
  have ob0 : ObH ([to, ta, ts, td, nu, sn, sw, fn, fa, fr'] ++ (frA (eK L) ++ H)) h14 x 408 (BA.afm 0 ⟨x, to, ta, ts, td, nu, sn, sw, fn, fa, fr', t0, 0, 0⟩) := ⟨_, es11, n11, xH x xV xL nx, fun d e => by cases e; exact xH dx nV dL nd, inst11, fun name => (G11 name).trans (congrArg some (lookup_rev (l := [(S "sort_names", Value.ref sn), (S "sort_widths", .ref sw), (S "fun_names", .ref fn), (S "fun_args", .ref fa), (S "fun_results", .ref fr'), (S "fresh_count", .int 0 t0), (S "term_ops", .ref to), (S "term_args", .ref ta), (S "term_sorts", .ref ts), (S "term_datas", .ref td), (S "numbers", .ref nu)]) (nodupB.of (by kernel_rfl)) name))⟩
  have b0 : Bk0 w 0 (frA (eK L) ++ H) ⟨x, to, ta, ts, td, nu, sn, sw, fn, fa, fr', t0, 0, 0⟩ ⟨[], 3, 0⟩ h14 := by
    refine ⟨ob0, OL.pl (i 4 rfl).1 (nH (i 4 rfl).2.2) sub, OL.pl (i 3 rfl).1 (nH (i 3 rfl).2.2) sub, OL.pl (i 2 rfl).1 (nH (i 2 rfl).2.2) sub, OL.pl (i 1 rfl).1 (nH (i 1 rfl).2.2) sub, ⟨_, ⟨rfl, rfl⟩, OL.pl (i 9 rfl).1 (nH (i 9 rfl).2.2) sub⟩, ⟨_, ⟨rfl, rfl⟩, OL.pl (i 8 rfl).1 (nH (i 8 rfl).2.2) sub⟩, ⟨_, ⟨rfl, rfl⟩, OL.pl (i 7 rfl).1 (nH (i 7 rfl).2.2) sub⟩, ⟨_, ⟨rfl, rfl⟩, OL.pl (i 6 rfl).1 (nH (i 6 rfl).2.2) sub⟩, ⟨_, ⟨rfl, rfl⟩, OL.pl (i 5 rfl).1 (nH (i 5 rfl).2.2) sub⟩, ?_, fun k hk => absurd hk List.not_mem_nil, by decide, ?_, sys⟩
    · exact ⟨nH (i 0 rfl).2.2, [], ⟨_, #[], 0, (i 0 rfl).1, ⟨rfl, rfl, rfl⟩, rfl, rfl, fun _ hx => absurd hx List.not_mem_nil, List.nodup_nil⟩, ⟨rfl, fun i x e => nomatch e⟩, fun _ hx => absurd hx List.not_mem_nil⟩
    · exact (((List.reverse_perm [nu, td, ts, ta, to]).append (List.reverse_perm [fr', fa, fn, sw, sn])).nodup_iff).mpr nd11
  have mk : ∀ {m : Nat} {a : BA} {st : BS} {k : Key} {es : List DictEntry} {ls : List (Addr × Option (List D))} {h1 : Heap} {e1 e2 e3 e4 : Expr} {ap pos px : Pos}, a.V = [to, ta, ts, td, nu, sn, sw, fn, fa, fr'] → a.b = x → PyData.strOk k.1 = true → st.ts.length < 1000 → Ini h (nu :: td :: ts :: ta :: to :: fr' :: fa :: fn :: sw :: sn :: (frA (eK L) ++ dx :: H)) (eK L) [(S "self", .obj x)] x dx 408 ls es h1 → Bk0 w m (frA (eK L) ++ H) a st h1 →
      (a.afm m) (S "make") = none → Es w A'' (nu :: td :: ts :: ta :: to :: fr' :: fa :: fn :: sw :: sn :: (frA (eK L) ++ dx :: H)) (eK L) h1 [e1, e2, e3, e4] [.str k.1, .tup (k.2.1.map .int), .int k.2.2.1, .int k.2.2.2] →
      (eval (.Call (.Attribute (.Name (S "self") px) (S "make") ap) [e1, e2, e3, e4] [] pos) (eK L) = (do let ov ← eval (.Name (S "self") px) (eK L); standAt (Pos.atName ap); let (f, first) ← holding [ov] (getMethod ov (S "make") (do let r ← importBound (.Name (S "self") px) (eK L); pure (r.getD true))); callWith pos f first (backTo pos (starEach [e1, e2, e3, e4] (eK L))) [])) →
      Mx w A'' h1 (eval (.Call (.Attribute (.Name (S "self") px) (S "make") ap) [e1, e2, e3, e4] [] pos) (eK L)) (fun v h2 => ∃ W' ls', Ini h W' (eK L) [(S "self", .obj x)] x dx 408 ls' es h2 ∧ (W' = (nu :: td :: ts :: ta :: to :: fr' :: fa :: fn :: sw :: sn :: (frA (eK L) ++ dx :: H)) ∧ ls' = [] ∧ (∃ t, v = .int (st.numM k) t) ∧ Bk0 w m (frA (eK L) ++ H) a (st.made k) h2)) := by
    intro m a st k es ls h1 e1 e2 e3 e4 ap pos px eV eb hk sz I1 b1 ha as hs
    have ob1 : ObH (a.V ++ (frA (eK L) ++ H)) h1 x 408 (a.afm m) := eb ▸ b1.ob
    refine Mx.meth (f := 237) (g.ext I1.F.ext) I1.F.var ob1.ob as (fun vs h3 y3 rd => ?_) ha (by kernel_rfl) hs
    refine ((make0_fn (m := m) (k := k) g hk sz) A'' h3 vs (r.le (by omega)) (I1.F.ext.trans y3) (b1.ext y3) (fun b hb => (hV b (eV ▸ hb)).2.2.1) (fun b hb => (I1.F.dm.ext y3) b (sub b (eV ▸ hb))) (by rw [eb]; exact rd.to (To.less fun b hb => sub b (eV ▸ hb)))).imp fun v h4 p => ?_
    exact ⟨_, _, (I1.up y3).moveV p.1 fun b hb => hV b (eV ▸ hb), rfl, rfl, p.2.2, p.2.1⟩
  refine Xs.ini g (mk (k := trueK) rfl rfl (by kernel_rfl) (by decide) I11 b0 rfl (.cons Ev.str (.cons (Ev.tup I11.F.dm .nil) (.cons (Ev.BOOL (g.ext I11.F.ext)) (.cons Ev.int .nil rfl) rfl) rfl) rfl) rfl) (by kernel_rfl) (so G11) (Nat.lt_of_le_of_lt z11 (by decide)) fun v W12 ls12 es12 h15' h15 P12 J12 m12 I12 l12 q12 => ?_
  obtain ⟨rfl, rfl, ⟨t1, rfl⟩, b12⟩ := P12
  have G12 := getL_step G11 q12
  have z12 : es12.length ≤ 12 := Nat.le_trans l12 (Nat.succ_le_succ z11)
  obtain ⟨n12, inst12⟩ := I12.inst
  obtain ⟨j12, d12⟩ := J12.hd
  have ob1 : ObH ([to, ta, ts, td, nu, sn, sw, fn, fa, fr'] ++ (frA (eK L) ++ H)) h15 x 408 (BA.afm 1 ⟨x, to, ta, ts, td, nu, sn, sw, fn, fa, fr', t0, t1, 0⟩) := ⟨_, es12, n12, xH x xV xL nx, fun d e => by cases e; exact xH dx nV dL nd, inst12, fun name => (G12 name).trans (congrArg some (lookup_rev (l := [(S "sort_names", Value.ref sn), (S "sort_widths", .ref sw), (S "fun_names", .ref fn), (S "fun_args", .ref fa), (S "fun_results", .ref fr'), (S "fresh_count", .int 0 t0), (S "term_ops", .ref to), (S "term_args", .ref ta), (S "term_sorts", .ref ts), (S "term_datas", .ref td), (S "numbers", .ref nu), (S "true_number", .int 1 t1)]) (nodupB.of (by kernel_rfl)) name))⟩
  have c12 : Bk0 w 1 (frA (eK L) ++ H) ⟨x, to, ta, ts, td, nu, sn, sw, fn, fa, fr', t0, t1, 0⟩ ⟨[trueK], 3, 0⟩ h15 := Bk0.attr (b12.re0 (t1 := t1) (t2 := 0)) d12 rfl m12 nV ob1
  refine Xs.ini g (mk (k := falseK) rfl rfl (by kernel_rfl) (by decide) I12 c12 rfl (.cons Ev.str (.cons (Ev.tup I12.F.dm .nil) (.cons (Ev.BOOL (g.ext I12.F.ext)) (.cons Ev.int .nil rfl) rfl) rfl) rfl) rfl) (by kernel_rfl) (so G12) (Nat.lt_of_le_of_lt z12 (by decide)) fun v W13 ls13 es13 h16' h16 P13 J13 m13 I13 l13 q13 => ?_
  obtain ⟨rfl, rfl, ⟨t2, rfl⟩, b13⟩ := P13
  have G13 := getL_step G12 q13
  have z13 : es13.length ≤ 13 := Nat.le_trans l13 (Nat.succ_le_succ z12)
  obtain ⟨n13, inst13⟩ := I13.inst
  obtain ⟨j13, d13⟩ := J13.hd
  have ob2 : ObH ([to, ta, ts, td, nu, sn, sw, fn, fa, fr'] ++ (frA (eK L) ++ H)) h16 x 408 (BA.afm 2 ⟨x, to, ta, ts, td, nu, sn, sw, fn, fa, fr', t0, t1, t2⟩) := ⟨_, es13, n13, xH x xV xL nx, fun d e => by cases e; exact xH dx nV dL nd, inst13, fun name => (G13 name).trans (congrArg some (lookup_rev (l := [(S "sort_names", Value.ref sn), (S "sort_widths", .ref sw), (S "fun_names", .ref fn), (S "fun_args", .ref fa), (S "fun_results", .ref fr'), (S "fresh_count", .int 0 t0), (S "term_ops", .ref to), (S "term_args", .ref ta), (S "term_sorts", .ref ts), (S "term_datas", .ref td), (S "numbers", .ref nu), (S "true_number", .int 1 t1), (S "false_number", .int 2 t2)]) (nodupB.of (by kernel_rfl)) name))⟩
  have c13 : Bk0 w 2 (frA (eK L) ++ H) ⟨x, to, ta, ts, td, nu, sn, sw, fn, fa, fr', t0, t1, t2⟩ ⟨[trueK, falseK], 3, 0⟩ h16 := Bk0.attr (b13.re1 (t2 := t2)) d13 rfl m13 nV ob2
  exact Xs.nil (kn _ ⟨rfl, ⟨x, to, ta, ts, td, nu, sn, sw, fn, fa, fr', t0, t1, t2⟩, rfl, I13.F.ext, c13.to (To2.less fun b hb => List.mem_append_right _ hb), fun b hb => (hV b hb).2.2.1⟩)
end
noncomputable def OLI (W : List Addr) (h : Heap) (l : Addr) (ds : List D) : Prop := ∃ vs, h.IsList l vs ∧ RdAll W h ds vs.toList
theorem OLI.to {W' : List Addr} {h' : Heap} {l : Addr} {ds : List D} (o : OLI W h l ds) (t : To W h W' h') (q : ∀ o, h.get? l = some o → h'.get? l = some o) : OLI W' h' l ds := let ⟨vs, p, r⟩ := o; ⟨vs, p.at fun o e => q o e, r.to t⟩
theorem OLI.some {l : Addr} {ds : List D} (o : OLI W h l ds) : h.get? l ≠ none := by obtain ⟨vs, ⟨o, e, _⟩, _⟩ := o; rw [e]; exact fun z => nomatch z
theorem Ev.ownItem {v i : Expr} {pos : Pos} {ds : List D} {l : Addr} {k : Int} {d : D} (o : OLI W h l ds) (x : Ev w A H env h v (.obj l)) (y : Ev w A H env h i (.int k)) (h0 : 0 ≤ k) (q : ds[k.toNat]? = some d) (hb : k < 2 ^ 63)
    (hs : ∀ a t, subscripted i false (.ref a) (.int k t) = operate [.ref a, .int k t] (getItem (.ref a) (.int k t)) := by intro _ _; rfl) : Ev w A W env h (.Subscript v i pos) d := fun s Q E e k' =>
  Subscript_ (x s _ E e fun u h1 tk1 x1 e1 => y _ _ E (e.trans x1) fun u2 h2 tk2 x2 ⟨t, e2⟩ => by
    subst e1 e2
    obtain ⟨vs, hl, r⟩ := o.to (To.ext (e.trans (x1.trans x2))) fun o q => (e.trans (x1.trans x2)) _ _ q
    obtain ⟨z, z1, z2⟩ := r.get k.toNat q
    exact tail_any (s := { s with heap := h2, toks := tk2 }) hl.typeIs slot_list_getitem.lookup (wpAny_getItem_list hl h0 hb (by simpa using z1) (k' z h2 tk2 (x1.trans x2) z2)) (hs l t))
theorem RdAll.set {d : D} {v : Value} (q : Rd H h d v) : ∀ {ds : List D} {vs : List Value} (k : Nat), RdAll H h ds vs → RdAll H h (ds.set k d) (vs.set k v)
  | [], _, _, r => by cases r; exact rfl
  | _ :: _, _, 0, ⟨_, r, e, a, b⟩ => by subst e; exact ⟨v, r, rfl, q, b⟩
  | _ :: _, _, k + 1, ⟨u, r, e, a, b⟩ => by subst e; exact ⟨u, _, rfl, a, RdAll.set q k b⟩
theorem Xs.setOwn {o i value : Expr} {tp pos : Pos} {l : Addr} {ds : List D} {k : Nat} {d : D} (F : Fm h0 W env vars h) (ol : OLI W h l ds) (lW : l ∈ W) (lF : l ∉ frA env) (l0 : h0.get? l = none) (hk : k < ds.length) (hz : ds.length ≤ 1000)
    (hv : Ev w A W env h value d) (ho : Ev w A W env h o (.obj l)) (hi : Ev w A W env h i (.int k))
    (kk : ∀ h', Fm h0 W env vars h' → OLI W h' l (ds.set k d) → Mv [l] h h' → Xs w A env PN PR h' rest) (hs : swapsWith value (some (.Subscript o i tp)) pos.line env = pure false := by rfl) :
    Xs w A env PN PR h (.Assign [.Subscript o i tp] value pos :: rest) := fun s Q E he kn kr => by
  subst he
  refine wpAny_execs_cons (wpAny_Assign_Subscript (hv s _ E (Ext.refl _) fun v h1 tk1 x1 r1 => ho _ _ E x1 fun ov h2 tk2 x2 r2 => hi _ _ E (x1.trans x2) fun iv h3 tk3 x3 r3 => ?_) hs)
  cases r2
  obtain ⟨t3, rfl⟩ := r3
  have xe := x1.trans (x2.trans x3)
  obtain ⟨vs, hl, r⟩ := ol.to (To.ext xe) fun o q => xe _ _ q
  have len := r.length
  have es : vs.toList.length = vs.size := by simp
  refine wpAny_setItem_list (s := { s with heap := h3, toks := tk3 }) hl (by omega) (by omega) (by omega) fun h4 hl4 hs4 => ?_
  have m4 : Mv [l] h3 h4 := Mv.one hs4 (by obtain ⟨o, q, _⟩ := hl4; rw [q]; exact fun z => nomatch z)
  have qW : ∀ b ∈ [l], b ∈ W := fun b hb => by rw [List.mem_singleton.mp hb]; exact lW
  refine kk h4 ((F.up xe).move m4 fun b hb => by rw [List.mem_singleton.mp hb]; exact ⟨lW, lF, l0⟩) ⟨_, hl4, ?_⟩ (xe.mv.trans m4) _ Q E rfl kn kr
  rw [Array.toList_setIfInBounds, Int.toNat_natCast]
  exact (RdAll.set (r1.ext (x2.trans x3)) k r).to (To.mv m4 qW)
theorem Bin.mod {a b : Int} (hb : b ≠ 0) : Bin w A H h .Mod (.int a) (.int b) (.int (a.fmod b)) := fun u v h₁ _ ⟨t, e1⟩ ⟨t', e2⟩ s Q E e k => by subst e1 e2; exact mod_int' hb (k _ s.heap _ (Ext.refl _) ⟨_, rfl⟩)
theorem Bin.fdiv {a b : Int} (hb : b ≠ 0) (hs : b.natAbs < 1073741824) : Bin w A H h .FloorDiv (.int a) (.int b) (.int (a.fdiv b)) := fun u v h₁ _ ⟨t, e1⟩ ⟨t', e2⟩ s Q E e k => by
  subst e1 e2; exact floordiv_int hb (k _ s.heap _ (Ext.refl _) ⟨_, rfl⟩) (.inl (PyProof.noPylong_small hs))
theorem Bin.pow {a n : Int} (hn : 0 ≤ n) (hn2 : n ≤ 1000000) (ha : a.natAbs < 2 ^ 64) : Bin w A H h .Pow (.int a) (.int n) (.int (a ^ n.toNat)) := fun u v h₁ _ ⟨t, e1⟩ ⟨t', e2⟩ s Q E e k => by
  subst e1 e2; exact pow_int_small hn hn2 ha (k _ s.heap _ (Ext.refl _) ⟨_, rfl⟩)
noncomputable def Feed (H : List Addr) (h : Heap) (fd : Addr) (L : List Int) (n : Nat) : Prop := fd ∉ H ∧ OLI (fd :: H) h fd [.list (L.map .int), .int n]
theorem Feed.to {H' : List Addr} {h' : Heap} {fd : Addr} {L : List Int} {n : Nat} (f : Feed H h fd L n) (t : To H h H' h') : Feed H' h' fd L n := by
  obtain ⟨nf, vs, ⟨o, e, r⟩, rd⟩ := f
  obtain ⟨n', e'⟩ := t _ _ nf e
  exact ⟨n', vs, ⟨o, e', r⟩, rd.to fun b o nb eb => by
    obtain ⟨q1, q2⟩ := t b o (fun z => nb (.tail _ z)) eb
    exact ⟨fun z => (List.mem_cons.mp z).elim (fun z => nb (z ▸ .head _)) q1, q2⟩⟩
theorem lk554 : (KF w.params).lookup 554 = some o554 := by kernel_rfl
theorem bits_small : ∀ n : Nat, n < 128 → Builtin.Int.intBits (n : Int) ≤ 64 := by decide +kernel
theorem fmod_in {a b : Int} (hb : 0 < b) : 0 ≤ a.fmod b ∧ a.fmod b < b := ⟨Int.fmod_nonneg_of_pos a hb, Int.fmod_lt_of_pos a hb⟩
theorem dip_fn {fd : Addr} {L : List Int} {n : Nat} {many : Int} {vs : List Value} (g : Gd w mg mb hb) (e : Ext hb h) (hm : Rm A 1) (f : Feed H h fd L n) (f0 : hb.get? fd = none) (hdm : Dm (fd :: H) h) (hn : n < 128) (hL : L.length ≤ 1000) (mp : 0 < many) (rd : RdAll (fd :: H) h [.obj fd, .int many] vs) :
    Mx w A h (PySem.call (.ref 554) vs) (fun v h' => ∃ x : Int, 0 ≤ x ∧ x < many ∧ Mv [fd] h h' ∧ Feed H h' fd L (n + 1) ∧ ∃ t, v = .int x t) := by
  refine Mx.enter (ps := [S "feed", S "many"]) (H := fd :: H) g e hm hdm rd lk554 (by kernel_rfl) (args2 fun _ _ => rfl) rfl (fun n => rfl) (by decide) rfl rfl rfl (fun L0 A' h1 r F x1 fr => ?_)
  conv => arg 7; whnf
  have fF : fd ∉ frA (envOfC (S "_law_dip") (dScope (top 16)) L0 554 (.ref 553)) := fun z => hdm fd (.head _) (fr fd z)
  have mW : ∀ b ∈ fd :: H, b ∈ frA (envOfC (S "_law_dip") (dScope (top 16)) L0 554 (.ref 553)) ++ fd :: H := fun b hb => List.mem_append_right _ hb
  have o1 : OLI (frA (envOfC (S "_law_dip") (dScope (top 16)) L0 554 (.ref 553)) ++ fd :: H) h1 fd [.list (L.map .int), .int n] := f.2.to (To.more x1 fun b hb => (List.mem_append.mp hb).elim (fun z => .inr (fr b z)) .inl) fun o q => x1 _ _ q
  refine Xs.asg (d := .int n) F (Ev.ownItem (k := 1) o1 F.var Ev.int (by decide) rfl (by decide)) fun h2 m2 F2 => ?_
  have o2 := o1.to (To.mv m2 F.inW) fun o q => m2.off _ _ fF q
  refine Xs.setOwn (k := 1) F2 o2 (mW _ (.head _)) fF f0 (by simp) (by simp) (Ev.bin F2.var Ev.int Bin.add) F2.var Ev.int fun h3 F3 o3 m3 => ?_
  have o3 : OLI (frA (envOfC (S "_law_dip") (dScope (top 16)) L0 554 (.ref 553)) ++ fd :: H) h3 fd [.list (L.map .int), .int (n + 1 : Nat)] := o3
  have len : ∀ {h4 : Heap} {p1 p2 p3 p4 p5 : Pos} (F4 : Fm hb (frA (envOfC (S "_law_dip") (dScope (top 16)) L0 554 (.ref 553)) ++ fd :: H) (envOfC (S "_law_dip") (dScope (top 16)) L0 554 (.ref 553)) [(S "spot", .int n), (S "many", .int many), (S "feed", .obj fd)] h4), Ext h3 h4 → Ev w A' (frA (envOfC (S "_law_dip") (dScope (top 16)) L0 554 (.ref 553)) ++ fd :: H) (envOfC (S "_law_dip") (dScope (top 16)) L0 554 (.ref 553)) h4 (.Call (.Name (S "len") p1) [.Subscript (.Name (S "feed") p2) (.Constant (.int 0) 0 p3) p4] [] p5) (.int (L.map D.int).length) := fun F4 x4 =>
    Ev.lenL (ds := L.map D.int) (g.ext F4.ext) (nmB (g.ext F4.ext) (by kernel_rfl) (by kernel_rfl)) (by rw [List.length_map]; omega) (Ev.ownItem (k := 0) (o3.to (To.ext x4) fun o q => x4 _ _ q) F4.var Ev.int (by decide) rfl (by decide)) _
  have fin : ∀ {v : Value} {h' : Heap} {x : Int}, 0 ≤ x → x < many → Ext h3 h' → (∃ t, v = .int x t) → ∃ x : Int, 0 ≤ x ∧ x < many ∧ Mv [fd] h h' ∧ Feed H h' fd L (n + 1) ∧ ∃ t, v = .int x t := fun {v h' x} p1 p2 x4 q => by
    refine ⟨x, p1, p2, ?_, ⟨f.1, ?_⟩, q⟩
    · exact Mv.fresh (N := frA (envOfC (S "_law_dip") (dScope (top 16)) L0 554 (.ref 553))) ((x1.mv.trans (m2.sub fun b hb => List.mem_append_left _ hb)).trans ((m3.sub fun b hb => List.mem_append_right _ hb).trans x4.mv)) fr
    · exact (o3.to (To.ext x4) fun o q => x4 _ _ q).to (To.less mW) fun o q => q
  have F3 := F3.pick (vs := [(S "spot", .int n), (S "many", .int many), (S "feed", .obj fd)]) ⟨rfl, rfl, rfl, trivial⟩
  refine Xs.iff (Et.cmp F3.var (len F3 (Ext.refl _)) Cm.ltI) (fun z h4 x4 => ?_) (fun z h4 x4 => ?_)
  · have F4 := F3.up x4
    have o4 := o3.to (To.ext x4) fun o q => x4 _ _ q
    have lt : n < (L.map D.int).length := by have := of_decide_eq_true z; omega
    refine Xs.ret ((Ev.bin (d := .int (L[n]!.fmod many)) (Ev.itemL (k := (n : Int)) (Ev.ownItem (k := 0) o4 F4.var Ev.int (by decide) rfl (by decide)) F4.var (by omega) (get_int (i := n) (by rw [List.length_map] at lt; exact lt)) (by omega)) F4.var (Bin.mod (by omega))).mx.imp fun v h' p => ?_)
    exact fin (fmod_in mp).1 (fmod_in mp).2 (x4.trans p.1) p.2
  · have F4 := F3.up x4
    refine Xs.ret ((Ev.bin (Ev.bin (Ev.bin (Ev.bin (Ev.bin (Ev.bin Ev.int F4.var (Bin.mul (IntMulOk.of_left (by decide +kernel)))) F4.var (Bin.mul (IntMulOk.of_right (bits_small n hn)))) (Ev.bin Ev.int F4.var (Bin.mul (IntMulOk.of_left (by decide +kernel)))) Bin.add) (len F4 x4) Bin.add) Ev.int (Bin.mod (by decide))) F4.var (Bin.mod (by omega))).mx.imp fun v h' p => ?_)
    exact fin (fmod_in mp).1 (fmod_in mp).2 (x4.trans p.1) p.2
noncomputable def Sta (J : List Addr → Heap → Prop) : Prop := ∀ {H h H' h'}, J H h → To H h H' h' → J H' h'
structure Lx (VB HB : List Addr) (J : List Addr → Heap → Prop) (hs : Heap) (V : List Addr) (h0 : Heap) (W : List Addr) (env : Env) (vars : List (Str × D)) (os : List (Addr × Own)) (h : Heap) : Prop where
  X : Fx h V h0 W env vars os h
  wB : ∀ b ∈ W, b ∈ VB ∨ b ∈ HB
  vB : ∀ b ∈ VB, b ∈ W ∧ b ∉ V ∧ h0.get? b = none
  hW : ∀ b ∈ HB, b ∈ W
  mv : Mv (VB ++ V) hs h
  j : J HB h
variable {VB HB : List Addr} {J J' : List Addr → Heap → Prop} {hst : Heap}
theorem Lx.vH (L : Lx VB HB J hst V h0 W env vars os h) : ∀ b ∈ V, b ∈ HB := fun b hb => (L.wB b (L.X.vW b hb)).elim (fun z => absurd hb (L.vB b z).2.1) id
theorem Lx.fV (L : Lx VB HB J hst V h0 W env vars os h) : ∀ b ∈ VB, b ∈ W ∧ b ∉ frA env ∧ h0.get? b = none := fun b hb => ⟨(L.vB b hb).1, fun z => (L.vB b hb).2.1 (L.X.inV b z), (L.vB b hb).2.2⟩
theorem Lx.next {N V' : List Addr} {vars' : List (Str × D)} {os' : List (Addr × Own)} {h' : Heap} (sj : Sta J) (L : Lx VB HB J hst V h0 W env vars os h) (X' : Fx h (N ++ V) h0 (N ++ W) env vars' os' h') (n : ∀ b ∈ N, h.get? b = none) : Lx VB (N ++ HB) J hst (N ++ V) h0 (N ++ W) env vars' os' h' := by
  refine ⟨X'.base, fun b hb => ?_, fun b hb => ⟨List.mem_append_right _ (L.vB b hb).1, fun z => ?_, (L.vB b hb).2.2⟩, fun b hb => ?_, (L.mv.sub fun b hb => ?_).trans (X'.mv.sub fun b hb => List.mem_append_right _ hb), sj L.j fun b o nb e => ⟨fun z => ?_, X'.mv.off b o (fun z => ?_) e⟩⟩
  · exact (List.mem_append.mp hb).elim (fun z => .inr (List.mem_append_left _ z)) fun z => (L.wB b z).imp id fun z => List.mem_append_right _ z
  · exact (List.mem_append.mp z).elim (fun z => L.X.F.dm b (L.vB b hb).1 (n b z)) (L.vB b hb).2.1
  · exact (List.mem_append.mp hb).elim (fun z => List.mem_append_left _ z) fun z => List.mem_append_right _ (L.hW b z)
  · exact (List.mem_append.mp hb).elim (fun z => List.mem_append_left _ z) fun z => List.mem_append_right _ (List.mem_append_right _ z)
  · exact (List.mem_append.mp z).elim (fun z => by rw [n b z] at e; cases e) nb
  · exact (List.mem_append.mp z).elim (fun z => by rw [n b z] at e; cases e) fun z => nb (L.vH b z)
theorem Lx.next0 {vars' : List (Str × D)} {os' : List (Addr × Own)} {h' : Heap} (sj : Sta J) (L : Lx VB HB J hst V h0 W env vars os h) (X' : Fx h V h0 W env vars' os' h') : Lx VB HB J hst V h0 W env vars' os' h' := Lx.next (N := []) (V' := []) sj L X' fun b hb => absurd hb List.not_mem_nil
theorem Lx.up {h' : Heap} (sj : Sta J) (L : Lx VB HB J hst V h0 W env vars os h) (e : Ext h h') : Lx VB HB J hst V h0 W env vars os h' := L.next0 sj (L.X.up e)
theorem Lx.pick {vs : List (Str × D)} (L : Lx VB HB J hst V h0 W env vars os h) (p : Pick vars vs) : Lx VB HB J hst V h0 W env vs os h := ⟨L.X.pick p, L.wB, L.vB, L.hW, L.mv, L.j⟩
theorem Lx.eff {h' : Heap} (L : Lx VB HB J hst V h0 W env vars os h) (m : Mv VB h h') (j : J' HB h') : Lx VB HB J' hst V h0 W env vars os h' :=
  ⟨⟨L.X.F.move m L.fV, fun p hp => let ⟨a, b, c, d⟩ := L.X.own p hp; ⟨a.to (To.mv m fun b hb => (L.vB b hb).1) fun o q => m.off _ o (fun z => (L.vB _ z).2.1 b) q, b, c, d⟩, L.X.nd, L.X.inV, L.X.vW, Mv.refl _ _⟩, L.wB, L.vB, L.hW, L.mv.trans (m.sub fun b hb => List.mem_append_left _ hb), j⟩
theorem Lx.imp (L : Lx VB HB J hst V h0 W env vars os h) (i : J HB h → J' HB h) : Lx VB HB J' hst V h0 W env vars os h := ⟨L.X, L.wB, L.vB, L.hW, L.mv, i L.j⟩
theorem Lx.asgE {α : Type} {Q : α → Prop} {d : α → D} {J' : α → List Addr → Heap → Prop} {x : Str} {px pos : Pos} {e : Expr} (sj : ∀ a, Sta (J' a)) (L : Lx VB HB J hst V h0 W env vars os h) (m : Mx w A h (eval e env) (fun v h1 => ∃ a, Q a ∧ Mv VB h h1 ∧ J' a HB h1 ∧ Rd W h1 (d a) v))
    (k : ∀ a h', Q a → Lx VB HB (J' a) hst V h0 W env ((x, d a) :: vars) os h' → Xs w A env PN PR h' rest) (kd : locOk env x = true := by rfl)
    (hs : swapsWith e (some (.Name x px)) pos.line env = pure false := by rfl) : Xs w A env PN PR h (.Assign [.Name x px] e pos :: rest) := fun s Q2 E he kn kr =>
  wpAny_execs_cons (wpAny_Assign_Name (m s _ E he fun v h1 tk ⟨a, q, mv, j, r⟩ =>
    (L.eff mv j).X.F.store (s := { s with heap := h1, toks := tk }) r kd fun h' tk' m' F' => k a h' q ((L.eff mv j).next0 (sj a) ((L.eff mv j).X.stored m' F')) _ Q2 E rfl kn kr) hs)
theorem Lx.asgD {d : D} {J' : List Addr → Heap → Prop} {x : Str} {px pos : Pos} {e : Expr} (sj : Sta J') (L : Lx VB HB J hst V h0 W env vars os h) (m : Mx w A h (eval e env) (fun v h1 => Mv VB h h1 ∧ J' HB h1 ∧ Rd W h1 d v))
    (k : ∀ h', Lx VB HB J' hst V h0 W env ((x, d) :: vars) os h' → Xs w A env PN PR h' rest) (kd : locOk env x = true := by rfl)
    (hs : swapsWith e (some (.Name x px)) pos.line env = pure false := by rfl) : Xs w A env PN PR h (.Assign [.Name x px] e pos :: rest) :=
  Lx.asgE (α := Unit) (Q := fun _ => True) (d := fun _ => d) (J' := fun _ => J') (fun _ => sj) L (m.imp fun v h1 p => ⟨(), trivial, p⟩) (fun _ h' _ L => k h' L) kd hs
theorem Fm.turnM {scope : Scope} {cl : List (Str × Addr)} {C : Addr} {H' : List Addr} {h₂ : Heap} {m₂ : Str → Option Value} {xs : List Str} {ds : List D} (F : Fm h0 W env vars h) (x : ExtO VB h h₂) (hVB : ∀ b ∈ VB, b ∈ W ∧ b ∉ frA env ∧ h0.get? b = none)
    (dm : Dm H' h₂) (more : ∀ b ∈ H', b ∈ W ∨ h.get? b = none) (sub : ∀ b ∈ W, b ∈ H') (ns : h₂.Ns C m₂) (inC : C ∈ H') (new : h.get? C = none) (b : Bd H' m₂ h₂ xs ds)
    (hkind : scope.kind = .function) (hcell : ∀ y ∈ scope.names, y.2 ≠ .cell) (hcl : clOk env cl) (hnd : (cl.map (·.1)).Nodup) (hbk : blockOk (relabel scope env).names xs vars = true) : Fm h0 H' (compEnvC scope cl C env) (xs.zip ds ++ vars) h₂ := by
  have cok : ∀ p ∈ cl, env.cells.lookup p.1 = some p.2 := hcl.at
  obtain ⟨b1, b2⟩ := Bool.and_eq_true_iff.mp hbk
  have bl : ∀ x ∈ xs, (relabel scope env).names.lookup x = some .local := fun x hx => beq_iff_eq.mp (List.all_eq_true.mp b2 x hx)
  have inF : ∀ p ∈ cl, p.2 ∈ frA env := fun p hp => frA_cell (cok p hp)
  have toH : To W h H' h₂ := fun b o nb e => ⟨fun m => (more b m).elim nb (fun z => by rw [z] at e; cases e), x b o (fun z => nb (hVB b z).1) e⟩
  have h0C : h0.get? C = none := Mv.gone (F.ext.mv (B := [])) new
  have keep : ∀ c ∈ frA env, ∀ o, h.get? c = some o → h₂.get? c = some o := fun c hc o e => x c o (fun z => (hVB c z).2.1 hc) e
  refine { fn := hkind, ext := fun b o e => x b o (fun z => by rw [(hVB b z).2.2] at e; cases e) (F.ext b o e), dm := dm, inW := fun b hb => ?_, fresh := fun b hb => ?_, apart := ?_, off := fun n c hc => ?_, ns := ⟨m₂, ns, fun x d e k => ?_⟩, cell := fun x c hc => ?_ }
  · rcases List.mem_cons.mp hb with rfl | hb
    · exact inC
    · obtain ⟨p, hp, rfl⟩ := List.mem_map.mp hb
      exact sub _ (F.inW _ (inF p hp))
  · rcases List.mem_cons.mp hb with rfl | hb
    · exact h0C
    · obtain ⟨p, hp, rfl⟩ := List.mem_map.mp hb
      exact F.fresh _ (inF p hp)
  · show cl.Pairwise _
    have : cl.Pairwise fun x y => x.1 ≠ y.1 := by rw [List.nodup_iff_pairwise_ne, List.pairwise_map] at hnd; exact hnd
    refine this.imp_of_mem fun {p q} hp hq ne e => ne ?_
    exact name_of_addr F.apart (mem_of_lookup (cok p hp)) (e ▸ mem_of_lookup (cok q hq))
  · show C ≠ c
    intro z
    obtain ⟨o, ⟨oc, e, _⟩, _⟩ := F.cell n c (cok (n, c) hc)
    rw [← z, new] at e; cases e
  · rcases lookup_app e with e | ⟨e1, e2⟩
    · exact b.at e
    · have nx : x ∉ xs := zip_none b.length e1
      have := List.all_eq_true.mp b1 _ (mem_lookup k)
      simp only [Bool.or_eq_true, bne_iff_ne, ne_eq, not_true_eq_false, false_or, List.contains_iff_mem] at this
      rcases this with z | z
      · exact absurd z nx
      · rw [e2] at z; cases z
  · have cx := cok (x, c) (mem_of_lookup hc)
    obtain ⟨o, ⟨oc, eo, no⟩, q⟩ := F.cell x c cx
    refine ⟨o, ⟨oc, keep c (frA_cell cx) _ eo, no⟩, fun d e k => ?_⟩
    have nx : x ∉ xs := fun z => by have := bl x z; rw [show (relabel scope env).names.lookup x = some .cell from k] at this; cases this
    have ek : env.kindOf x = some .cell := (relabel_cell k).resolve_right fun z => hcell _ z rfl
    rcases lookup_app e with e | ⟨_, e⟩
    · exact absurd (List.of_mem_zip (mem_lookup e)).1 nx
    · obtain ⟨v, e1, r⟩ := q d e ek
      exact ⟨v, e1, r.to toH⟩
theorem comp_loopM {elt target iter : Expr} {scope : Scope} {pos : Pos} {I Dx : Addr} {fp : List Addr} {P : Nat → Value → Prop} {St : Nat → Heap → Prop} {cenv : Env} {m : Str → Option Value} {ds : List D}
    {H' HB' : List Addr} {R : Result → Shared → Prop} {s : Shared} {B : D → (Str → Option Value) → Heap → Prop} {J : Nat → List D → List Addr → Heap → Prop}
    (sj : ∀ i acc, Sta (J i acc)) (hV : ∀ b ∈ VB, b ∈ H' ∧ b ∉ fp ∧ b ≠ cenv.locals ∧ b ≠ Dx ∧ b ≠ I) (hHB : ∀ b ∈ [cenv.locals, Dx, I], b ∈ HB')
    (W : Walks prg w A I fp [I] ds.length P St) (hst : St 0 s.heap) (hC : cenv.locals ∈ H') (hD : Dx ∈ H') (hI : I ∈ H') (hDC : Dx ≠ cenv.locals) (hDf : Dx ∉ fp) (hCf : cenv.locals ∉ fp)
    (hacc : s.heap.PlainList Dx #[]) (hns : s.heap.Ns cenv.locals m) (hdm : Dm H' s.heap)
    (hrd : ∀ i v, P i v → ∃ d, ds[i]? = some d ∧ Rd H' s.heap d v)
    (hIO : ∀ i h, St i h → IsItr h I) (j0 : J 0 [] HB' s.heap)
    (hb : ∀ d ∈ ds, Binds w A H' cenv target I d (B d))
    (helt : ∀ i d acc h₂ m₂, ds[i]? = some d → acc.length = i → J i acc HB' h₂ → Mv (cenv.locals :: Dx :: I :: VB) s.heap h₂ → Dm H' h₂ → h₂.Ns cenv.locals m₂ → B d m₂ h₂ → Mx w A h₂ (eval elt cenv) (fun v h₃ => Mv VB h₂ h₃ ∧ ∃ d', Rd H' h₃ d' v ∧ J (i + 1) (acc ++ [d']) HB' h₃))
    (hsz : ds.length ≤ 100000)
    (hR : ∀ h' tk m' ys acc, acc.length = ds.length → ExtO (cenv.locals :: Dx :: I :: VB) s.heap h' → (∀ b ∈ VB, s.heap.get? b ≠ none → h'.get? b ≠ none) → h'.Ns cenv.locals m' → h'.PlainList Dx ys → RdAll H' h' acc ys.toList → J ds.length acc HB' h' → R (.ok .next) { s with heap := h', toks := tk }) :
    codeAny (model prg w) A (.compLoop (.ListComp elt [⟨target, iter, [], 0⟩] scope pos) 0 (.ref I) (.ref Dx) cenv) R s := by
  have hCI : cenv.locals ≠ I := fun z => hCf (W.sub _ (by rw [z]; exact .head _))
  have hDI : Dx ≠ I := fun z => hDf (W.sub _ (by rw [z]; exact .head _))
  have inH : ∀ b ∈ cenv.locals :: Dx :: I :: VB, b ∈ H' := fun b hb => by
    rcases List.mem_cons.mp hb with rfl | hb
    · exact hC
    · rcases List.mem_cons.mp hb with rfl | hb
      · exact hD
      · rcases List.mem_cons.mp hb with rfl | hb
        · exact hI
        · exact (hV b hb).1
  have toH : ∀ {a b : Heap}, Mv (cenv.locals :: Dx :: I :: VB) a b → To H' a H' b := fun q => To.mv q inH
  refine comp_turns (fun k s' => Ex6 fun h' tk m' ys i acc => C11 (s' = { s with heap := h', toks := tk }) (St i h') (h'.PlainList Dx ys) (h'.Ns cenv.locals m') (RdAll H' h' acc ys.toList) (acc.length = i) (i ≤ ds.length) (k = ds.length + 1 - i) (Mv (cenv.locals :: Dx :: I :: VB) s.heap h') (Dm H' h') (J i acc HB' h')) ?_ (ds.length + 1)
    ⟨s.heap, s.toks, m, #[], 0, [], rfl, hst, hacc, hns, rfl, rfl, Nat.zero_le _, rfl, Mv.refl _ _, hdm, j0⟩
  rintro k s' ⟨g, tk, m', ys, i, acc, rfl, hst', hacc', hns', hrd', ha, hi, rfl, hx, hdm', hj⟩
  have mvO : ∀ {a b : Heap} {X : List Addr}, ExtO X a b → (∀ c ∈ X, b.get? c ≠ none) → Mv X a b := fun {a b X} q z c o e => by
    by_cases hc : c ∈ X
    · cases y : b.get? c with
      | none => exact absurd y (z c hc)
      | some o' => exact ⟨o', rfl, fun n => absurd hc n⟩
    · exact ⟨o, q c o hc e, fun _ => rfl⟩
  by_cases hlt : i < ds.length
  · refine W.item i _ _ _ hlt hst' fun v h₁ tk₁ hPv hst₁ hk₁ => ?_
    obtain ⟨d, hd, hr⟩ := hrd i v hPv
    have hmem : d ∈ ds := List.mem_of_getElem? hd
    have x1 : Mv [I] g h₁ := mvO hk₁ fun c hc => by rw [List.mem_singleton.mp hc]; exact (hIO _ _ hst₁).some
    have y1 : Mv (cenv.locals :: Dx :: I :: VB) g h₁ := x1.sub fun b hb => by rw [List.mem_singleton.mp hb]; exact .tail _ (.tail _ (.head _))
    have hr1 : Rd H' h₁ d v := hr.to (toH (hx.trans y1))
    have hdm₁ : Dm H' h₁ := x1.dm hdm'
    have hns₁ : h₁.Ns cenv.locals m' := hns'.at' fun o e => x1.off _ o (fun z => hCI (List.mem_singleton.mp z)) e
    refine wpAny_mono (hb d hmem { s with heap := h₁, toks := tk₁ } v m' (fun _ s₂ => ∃ h₂ tk₂ m₂, s₂ = { s with heap := h₂, toks := tk₂ } ∧ ExtO [cenv.locals] h₁ h₂ ∧ h₂.Ns cenv.locals m₂ ∧ B d m₂ h₂) _ _ (hIO _ _ hst₁) hr1 hns₁ (fun h₂ tk₂ m₂ x2 hn2 hB => ⟨h₂, tk₂, m₂, rfl, x2, hn2, hB⟩)) (fun _ s₁' z => wpAny_mono z (fun _ s₂ z => ?_) fun _ _ e => e) fun _ _ e => e
    obtain ⟨h₂, tk₂, m₂, rfl, x2, hn2, hB⟩ := z
    have x2 : Mv [cenv.locals] h₁ h₂ := mvO x2 fun c hc => by rw [List.mem_singleton.mp hc]; exact Ns.some hn2
    have y2 : Mv (cenv.locals :: Dx :: I :: VB) h₁ h₂ := x2.sub fun b hb => by rw [List.mem_singleton.mp hb]; exact .head _
    have hx2 := (hx.trans y1).trans y2
    have hst₂ : St (i + 1) h₂ := W.frame _ _ _ hst₁ fun b hb o e => x2.off b o (fun z => hCf (List.mem_singleton.mp z ▸ hb)) e
    have hacc₂ : h₂.PlainList Dx ys := (hacc'.at fun o e => x1.off _ o (fun z => hDI (List.mem_singleton.mp z)) e).at fun o e => x2.off _ o (fun z => hDC (List.mem_singleton.mp z)) e
    have hdm₂ : Dm H' h₂ := x2.dm hdm₁
    have hrd₂ := hrd'.to (toH (y1.trans y2))
    have j2 : J i acc HB' h₂ := sj i acc (sj i acc hj (To.mv x1 fun b hb => by rw [List.mem_singleton.mp hb]; exact hHB _ (.tail _ (.tail _ (.head _))))) (To.mv x2 fun b hb => by rw [List.mem_singleton.mp hb]; exact hHB _ (.head _))
    show wpAny _ _ (forIn ([] : List Expr) true _) _ _ _
    rw [List.forIn_nil]
    refine wpAny_pure ?_
    simp -iota only [if_true]
    refine (helt i d acc h₂ m₂ hd ha j2 hx2 hdm₂ hn2 hB) _ _ _ rfl fun y h₄ tk₄ ⟨x4, d', hy, j4⟩ => ?_
    have hys : ys.size ≤ sizeLine := by
      have e1 := hrd₂.length
      have e3 : ys.toList.length = ys.size := by simp
      have : sizeLine = 2 ^ 24 := rfl
      omega
    have nD : Dx ∉ VB := fun z => (hV _ z).2.2.2.1 rfl
    have nC : cenv.locals ∉ VB := fun z => (hV _ z).2.2.1 rfl
    have y4 : Mv (cenv.locals :: Dx :: I :: VB) h₂ h₄ := x4.sub fun b hb => .tail _ (.tail _ (.tail _ hb))
    refine wpAny_list_append_plain (s := { s with heap := h₄, toks := tk₄ }) (hsz := hys) (hacc₂.at fun o e => x4.off _ o nD e) fun h₅ hl₅ hs₅ => ?_
    have x5 : Mv [Dx] h₄ h₅ := Mv.one hs₅ (by obtain ⟨n, e⟩ := hl₅; rw [e]; exact fun z => nomatch z)
    have y5 : Mv (cenv.locals :: Dx :: I :: VB) h₄ h₅ := x5.sub fun b hb => by rw [List.mem_singleton.mp hb]; exact .tail _ (.head _)
    refine ⟨ds.length + 1 - (i + 1), by omega, h₅, tk₄, m₂, ys.push y, i + 1, acc ++ [d'], rfl, ?_, hl₅, (hn2.at' fun o e => x5.off _ o (fun z => hDC (List.mem_singleton.mp z).symm) (x4.off _ o nC e)), ?_, by simp [ha], hlt, rfl, (hx2.trans y4).trans y5, x5.dm (x4.dm hdm₂), ?_⟩
    · exact W.frame _ _ _ hst₂ fun b hb o e => x5.off b o (fun z => hDf (List.mem_singleton.mp z ▸ hb)) (x4.off b o (fun z => (hV b z).2.1 hb) e)
    · rw [Array.toList_push]
      exact (hrd₂.to (toH (y4.trans y5))).snoc (hy.to (toH y5))
    · exact sj _ _ j4 (To.mv x5 fun b hb => by rw [List.mem_singleton.mp hb]; exact hHB _ (.tail _ (.head _)))
  · have hin : i = ds.length := by omega
    subst hin
    refine W.done _ _ _ hst' fun h₁ tk₁ hk₁ => ?_
    have x1 : ExtO [I] g h₁ := hk₁
    have y1 : ExtO (cenv.locals :: Dx :: I :: VB) g h₁ := fun b o n e => x1 b o (fun z => n (by rw [List.mem_singleton.mp z]; exact .tail _ (.tail _ (.head _)))) e
    have t1 : To H' g H' h₁ := fun b o n e => ⟨n, y1 b o (fun z => n (inH b z)) e⟩
    refine hR h₁ tk₁ m' ys acc ha (fun b o n e => y1 b o n (hx.off b o n e)) (fun b hb n z => ?_) (hns'.at' fun o e => x1 _ o (fun z => hCI (List.mem_singleton.mp z)) e) (hacc'.at fun o e => x1 _ o (fun z => hDI (List.mem_singleton.mp z)) e) (hrd'.to t1) (sj _ _ hj fun b o n e => ⟨n, x1 b o (fun z => n (by rw [List.mem_singleton.mp z]; exact hHB _ (.tail _ (.tail _ (.head _))))) e⟩)
    have := hx.there n
    cases q : g.get? b with
    | none => exact this q
    | some o => rw [x1 b o (fun y => (hV b hb).2.2.2.2 (List.mem_singleton.mp y)) q] at z; cases z
theorem comp_coreM {elt target iter : Expr} {scope : Scope} {cl : List (Str × Addr)} {pos : Pos} {ds : List D} {xs : List Str} {pt : D → List D} {J : Nat → List D → List Addr → Heap → Prop} {J0 : List Addr → Heap → Prop}
    (sj : ∀ i acc, Sta (J i acc)) (L : Lx VB HB J0 hst V h0 W env vars os h) (j0 : J0 HB h → J 0 [] HB h)
    (hclos : closureFor scope env = pure cl) (hcell : ∀ y ∈ scope.names, y.2 ≠ .cell) (hkind : scope.kind = .function) (hcl : clOk env cl) (hnd : (cl.map (·.1)).Nodup) (hbk : blockOk (relabel scope env).names xs vars = true)
    {s : Shared} {E : Value → Shared → Prop} {I : Addr} {fp : List Addr} {P : Nat → Value → Prop} {St : Nat → Heap → Prop} {h1 : Heap} {tk1 : Nat} (e : s.heap = h) (x1 : Ext s.heap h1) (it : Itr w A W ds I fp P St h1) (hIs : s.heap.get? I = none) {RR : Value → Addr → Result → Shared → Prop}
    (hb : ∀ C I H' d, d ∈ ds → C ∈ H' → Binds w A H' (compEnvC scope cl C env) target I d (fun m h' => Bd H' m h' xs (pt d)))
    (helt : ∀ C Dx I i d acc h₂, ds[i]? = some d → acc.length = i → J i acc (C :: Dx :: I :: HB) h₂ → Fm h0 (C :: Dx :: I :: W) (compEnvC scope cl C env) (xs.zip (pt d) ++ vars) h₂ → (∀ b ∈ VB, b ∈ W ∧ b ∉ C :: Dx :: I :: HB → b ∈ C :: Dx :: I :: W) →
      Mx w A h₂ (eval elt (compEnvC scope cl C env)) (fun v h₃ => Mv VB h₂ h₃ ∧ ∃ d', Rd (C :: Dx :: I :: W) h₃ d' v ∧ J (i + 1) (acc ++ [d']) (C :: Dx :: I :: HB) h₃))
    (hsz : ds.length ≤ 100000)
    (hRR : ∀ Dx C h' tk m' ys acc, acc.length = ds.length → Dx ≠ C → h1.get? Dx = none → h1.get? C = none → (∀ b o, b ≠ I → b ∉ VB → h1.get? b = some o → h'.get? b = some o) → (∀ b ∈ VB, h'.get? b ≠ none) → h'.Ns C m' → h'.PlainList Dx ys → RdAll (C :: Dx :: I :: W) h' acc ys.toList → J ds.length acc (C :: Dx :: I :: HB) h' → RR (.ref Dx) C (.ok .next) { s with heap := h', toks := tk }) :
    wpAny (model prg w) A (newList []) (fun acc s₃ => wpAny (model prg w) A (newFunctionEnv scope env.globals cl [] env.qual none .none (some env)) (fun cenv s₄ =>
      codeAny (model prg w) A (.compStart (.ListComp elt [⟨target, iter, [], 0⟩] scope pos) 0 (.ref I) acc { cenv with scope := relabel scope env }) (RR acc cenv.locals) s₄) E s₃) E { s with heap := h1, toks := tk1 } := by
  subst e
  have F := L.X.F
  have hdm := F.dm
  have hfp : ∀ b ∈ fp, b < h1.objs.size := it.low
  refine wpAny_newObj_type (s := { s with heap := h1, toks := tk1 }) (wpAny_newFunctionEnv hcell (by intro y hy; simp at hy) (fun h₁ hns₁ hsb₁ => ?_) hkind)
  dsimp only at hns₁ hsb₁ ⊢
  generalize hH2 : h1.push { cls := .type "list", dict := none, data := .seq ([] : List Value).toArray } = H2 at hns₁ hsb₁ ⊢
  have hC : H2.objs.size = h1.objs.size + 1 := by rw [← hH2, Heap.size_push]
  have hDC : h1.objs.size ≠ H2.objs.size := by rw [hC]; exact Nat.ne_of_lt (Nat.lt_succ_self _)
  have below : ∀ b, b < h1.objs.size → b ≠ H2.objs.size ∧ b ≠ h1.objs.size := fun b hb => ⟨by rw [hC]; exact Nat.ne_of_lt (Nat.lt_succ_of_lt hb), Nat.ne_of_lt hb⟩
  have hDf : h1.objs.size ∉ fp := fun hm => Nat.lt_irrefl _ (hfp _ hm)
  have hCf : H2.objs.size ∉ fp := fun hm => by have := hfp _ hm; rw [hC] at this; exact Nat.lt_irrefl _ (Nat.lt_of_succ_lt this)
  have old : Ext h1 h₁ := fun b o e => hsb₁.extBut b o (below b (Heap.lt_size e)).1 (Heap.get?_push_of_some _ (hH2 ▸ Heap.get?_push_of_some _ e))
  have hacc : h₁.PlainList h1.objs.size #[] := ⟨_, hsb₁.extBut _ _ hDC (Heap.get?_push_of_some _ (hH2 ▸ Heap.get?_push_size _ rfl))⟩
  have hst₁ : St 0 h₁ := it.W.frame _ _ _ it.st fun b _ o e => old b o e
  have fresh : ∀ a, h1.objs.size ≤ a → h1.get? a = none := fun a ha => by
    cases e : h1.get? a with
    | none => rfl
    | some o' => exact absurd (Heap.lt_size e) (Nat.not_lt.mpr ha)
  have hCn : h1.get? H2.objs.size = none := fresh _ (by rw [hC]; exact Nat.le_succ _)
  have hDn : h1.get? h1.objs.size = none := fresh _ (Nat.le_refl _)
  generalize hCC : H2.objs.size = C at *
  generalize hDD : h1.objs.size = Dx at *
  have hIi : IsItr h1 I := it.own _ _ it.st
  have sC := x1.gone hCn
  have sD := x1.gone hDn
  have hmore : ∀ b, b ∈ C :: Dx :: I :: W → b ∈ W ∨ s.heap.get? b = none := fun b hb => by
    rcases List.mem_cons.mp hb with rfl | hb
    · exact .inr sC
    · rcases List.mem_cons.mp hb with rfl | hb
      · exact .inr sD
      · rcases List.mem_cons.mp hb with rfl | hb
        · exact .inr hIs
        · exact .inl hb
  have hdm₁ : Dm (C :: Dx :: I :: W) h₁ := fun b hb z => by
    rcases List.mem_cons.mp hb with rfl | hb
    · exact Ns.some hns₁ z
    · rcases List.mem_cons.mp hb with rfl | hb
      · obtain ⟨n, q⟩ := hacc; rw [q] at z; cases z
      · rcases List.mem_cons.mp hb with rfl | hb
        · exact (it.own _ _ hst₁).some z
        · exact (hdm.ext (x1.trans old)) b hb z
  have vlive : ∀ b ∈ VB, s.heap.get? b ≠ none := fun b hb => hdm b (L.vB b hb).1
  have vne : ∀ {b c : Addr}, b ∈ VB → s.heap.get? c = none → b ≠ c := fun hb hc e => vlive _ hb (e ▸ hc)
  have jj : J 0 [] (C :: Dx :: I :: HB) h₁ := sj _ _ (j0 L.j) (To.more (x1.trans old) fun b hb => by
    rcases List.mem_cons.mp hb with rfl | hb
    · exact .inr sC
    · rcases List.mem_cons.mp hb with rfl | hb
      · exact .inr sD
      · rcases List.mem_cons.mp hb with rfl | hb
        · exact .inr hIs
        · exact .inl hb)
  refine (fun q => codeAny_compStart_list q (it.W.self 0 { s with heap := h₁, toks := _ } _ _ hst₁ q)) ?_
  · refine comp_loopM (s := { s with heap := h₁, toks := _ }) (cenv := compEnvC scope cl C env) (H' := C :: Dx :: I :: W) (HB' := C :: Dx :: I :: HB) (VB := VB) (J := J) (B := fun d m h' => Bd (C :: Dx :: I :: W) m h' xs (pt d)) sj
      (fun b hb => ⟨.tail _ (.tail _ (.tail _ (L.vB b hb).1)), fun z => (it.out b z).elim (vne hb hIs) fun q => q (L.vB b hb).1, vne hb sC, vne hb sD, vne hb hIs⟩) (fun b hb => by
        rcases List.mem_cons.mp hb with rfl | hb
        · exact .head _
        · rcases List.mem_cons.mp hb with rfl | hb
          · exact .tail _ (.head _)
          · rw [List.mem_singleton.mp hb]; exact .tail _ (.tail _ (.head _)))
      it.W hst₁ (.head _) (.tail _ (.head _)) (.tail _ (.tail _ (.head _))) hDC hDf hCf hacc hns₁ hdm₁
      (fun i v hP => ?_) it.own jj (fun d hd => hb C I _ d hd (.head _)) (fun i d acc h₂ m₂ hd ha j2 mv d2 n2 b2 => ?_) hsz (fun h' tk m' ys acc ha x2 lv n2 a2 r2 j2 => ?_)
    · obtain ⟨d, hd, hr⟩ := it.rd i v hP
      refine ⟨d, hd, hr.more old fun b hb => ?_⟩
      rcases List.mem_cons.mp hb with rfl | hb
      · exact .inr hCn
      · rcases List.mem_cons.mp hb with rfl | hb
        · exact .inr hDn
        · exact .inl hb
    · refine helt C Dx I i d acc h₂ hd ha j2 (F.turnM (VB := VB) (fun b o nb q => mv.off b o (fun z => ?_) (old b o (x1 b o q))) L.fV d2 (fun b hb => hmore b hb) (fun b hb => .tail _ (.tail _ (.tail _ hb))) n2 (.head _) sC b2 hkind hcell hcl hnd hbk) (fun b _ z => .tail _ (.tail _ (.tail _ z.1)))
      rcases List.mem_cons.mp z with z | z
      · rw [z, show (compEnvC scope cl C env).locals = C from rfl, sC] at q; cases q
      · rcases List.mem_cons.mp z with z | z
        · rw [z, sD] at q; cases q
        · rcases List.mem_cons.mp z with z | z
          · rw [z, hIs] at q; cases q
          · exact nb z
    · refine hRR Dx C h' tk m' ys acc ha hDC hDn hCn (fun b o nI nV q1 => ?_) (fun b hb => lv b hb fun z => ?_) n2 a2 r2 j2
      · refine x2 b o (fun z => ?_) (old b o q1)
        rcases List.mem_cons.mp z with z | z
        · rw [z, show (compEnvC scope cl C env).locals = C from rfl, hCn] at q1; cases q1
        · rcases List.mem_cons.mp z with z | z
          · rw [z, hDn] at q1; cases q1
          · exact (List.mem_cons.mp z).elim nI nV
      · cases q : s.heap.get? b with
        | none => exact vlive b hb q
        | some o => rw [(x1.trans old) b o q] at z; cases z
section
variable {VB HB : List Addr} {J0 : List Addr → Heap → Prop} {hst : Heap}
theorem Fm.moveN {N : List Addr} {h' : Heap} (F : Fm h0 W env vars h) (x : Mv VB h h') (q : ∀ b ∈ VB, b ∈ W ∧ b ∉ frA env ∧ h0.get? b = none) (n1 : ∀ b ∈ N, h.get? b = none) (n2 : ∀ b ∈ N, h'.get? b ≠ none) : Fm h0 (N ++ W) env vars h' :=
  have t : To W h (N ++ W) h' := fun b o nb e => ⟨fun z => (List.mem_append.mp z).elim (fun z => by rw [n1 b z] at e; cases e) nb, x.off b o (fun z => nb (q b z).1) e⟩
  { fn := F.fn, ext := x.ext (fun b hb => (q b hb).2.2) F.ext, dm := fun b hb => (List.mem_append.mp hb).elim (n2 b) (x.dm F.dm b), inW := fun b hb => List.mem_append_right _ (F.inW b hb), fresh := F.fresh, apart := F.apart, off := F.off
    ns := let ⟨m, n, p⟩ := F.ns; ⟨m, n.at' fun o e => x.off _ o (fun z => (q _ z).2.1 (.head _)) e, fun y d a b => let ⟨v, z, r⟩ := p y d a b; ⟨v, z, r.to t⟩⟩
    cell := fun y c a => let ⟨o, ⟨oc, n, nd⟩, p⟩ := F.cell y c a; ⟨o, ⟨oc, x.off _ _ (fun z => (q _ z).2.1 (frA_cell a)) n, nd⟩, fun d a b => let ⟨v, z, r⟩ := p d a b; ⟨v, z, r.to t⟩⟩ }
theorem Lx.moveN {N : List Addr} {h' : Heap} (L : Lx VB HB J0 hst V h0 W env vars os h) (x : Mv VB h h') (n1 : ∀ b ∈ N, h.get? b = none) (n2 : ∀ b ∈ N, h'.get? b ≠ none) : Fx h' V h0 (N ++ W) env vars os h' :=
  have t : To W h (N ++ W) h' := fun b o nb e => ⟨fun z => (List.mem_append.mp z).elim (fun z => by rw [n1 b z] at e; cases e) nb, x.off b o (fun z => nb (L.vB b z).1) e⟩
  ⟨L.X.F.moveN x L.fV n1 n2, fun p hp => let ⟨a, b, c, d⟩ := L.X.own p hp; ⟨a.to t fun o q => x.off _ o (fun z => (L.vB _ z).2.1 b) q, b, c, d⟩, L.X.nd, L.X.inV, fun b hb => List.mem_append_right _ (L.X.vW b hb), Mv.refl _ _⟩
section
variable {elt target iter : Expr} {scope : Scope} {cl : List (Str × Addr)} {pos : Pos} {ds : List D} {xs : List Str} {pt : D → List D} {J : Nat → List D → List Addr → Heap → Prop}
theorem Mx.lcM (sj : ∀ i acc, Sta (J i acc)) (L : Lx VB HB J0 hst V h0 W env vars os h) (j0 : J0 HB h → J 0 [] HB h) (src : Src w A W env h iter ds)
    (hb : ∀ C I H' d, d ∈ ds → C ∈ H' → Binds w A H' (compEnvC scope cl C env) target I d (fun m h' => Bd H' m h' xs (pt d)))
    (helt : ∀ C Dx I i d acc h₂, ds[i]? = some d → acc.length = i → J i acc (C :: Dx :: I :: HB) h₂ → Fm h0 (C :: Dx :: I :: W) (compEnvC scope cl C env) (xs.zip (pt d) ++ vars) h₂ →
      Mx w A h₂ (eval elt (compEnvC scope cl C env)) (fun v h₃ => Mv VB h₂ h₃ ∧ ∃ d', Rd (C :: Dx :: I :: W) h₃ d' v ∧ J (i + 1) (acc ++ [d']) (C :: Dx :: I :: HB) h₃))
    (hsz : ds.length ≤ 100000) (hclos : closureFor scope env = pure cl := by rfl) (hkind : scope.kind = .function := by rfl) (hcell : ∀ y ∈ scope.names, y.2 ≠ .cell := by decide) (hnames : ∀ y ∈ scope.names, y.2 = .local → scope.names.lookup y.1 = some .local := by decide)
    (hcl : clOk env cl := by repeat constructor) (hnd : nodupB (cl.map (·.1)) = true := by rfl) (hbk : blockOk (relabel scope env).names xs vars = true := by rfl)
    (hs : ∀ x, foldedSetIterable iter env x = pure x := by intro _; rfl) :
    Mx w A h (eval (.ListComp elt [⟨target, iter, [], 0⟩] scope pos) env) (fun v h' => ∃ acc, acc.length = ds.length ∧ Mv VB h h' ∧ J ds.length acc HB h' ∧ Rd W h' (.list acc) v) := fun s Q E e k => by
  subst e
  rw [eval_ListComp]
  refine wpAny_comprehension_free (use := none) rfl hs hclos hkind hnames (src s _ E (Ext.refl _) fun I fp P St h1 tk1 x1 it hIs => ?_)
  refine comp_coreM (RR := fun acc C => compPost (model prg w) A E none Q acc C) sj L j0 hclos hcell hkind hcl (nodupB.of hnd) hbk rfl x1 it hIs hb (fun C Dx I i d acc h₂ a b c e _ => helt C Dx I i d acc h₂ a b c e) hsz fun Dx C h' tk m' ys acc ha hDC hDn hCn x2 lv n2 a2 r2 j2 => ?_
  refine ⟨m', n2, fun h'' hs'' => k (.ref Dx) h'' tk ⟨acc, ha, fun b o q => ?_, ?_, Dx, ys.toList, rfl, ?_, ?_, ?_⟩⟩
  · have q1 : h1.get? b = some o := x1 b o q
    have bC : b ≠ C := fun z => by rw [z, hCn] at q1; exact nomatch q1
    have bI : b ≠ I := fun z => by rw [z, hIs] at q; exact nomatch q
    by_cases hv : b ∈ VB
    · cases y : h'.get? b with
      | none => exact absurd y (lv b hv)
      | some o' => exact ⟨o', hs''.extBut b o' bC y, fun n => absurd hv n⟩
    · exact ⟨o, hs''.extBut b o bC (x2 b o bI hv q1), fun _ => rfl⟩
  · exact sj _ _ j2 fun b o n q => ⟨fun z => n (.tail _ (.tail _ (.tail _ z))), hs''.extBut b o (fun z => n (z ▸ .head _)) q⟩
  · intro z
    exact (L.X.F.dm.ext x1) _ z hDn
  · exact (a2.isList.extBut hs''.extBut hDC)
  · exact r2.mono fun b o n q => ⟨fun z => n (.tail _ (.tail _ (.tail _ z))), hs''.extBut b o (fun z => n (z ▸ .head _)) q⟩
theorem Lx.asgC {y : Str} {py spos : Pos} (sj : ∀ i acc, Sta (J i acc)) (L : Lx VB HB J0 hst V h0 W env vars os h) (j0 : J0 HB h → J 0 [] HB h) (src : Src w A W env h iter ds)
    (hb : ∀ C I H' d, d ∈ ds → C ∈ H' → Binds w A H' (compEnvC scope cl C env) target I d (fun m h' => Bd H' m h' xs (pt d)))
    (helt : ∀ C Dx I i d acc h₂, ds[i]? = some d → acc.length = i → J i acc (C :: Dx :: I :: HB) h₂ → Fm h0 (C :: Dx :: I :: W) (compEnvC scope cl C env) (xs.zip (pt d) ++ vars) h₂ →
      Mx w A h₂ (eval elt (compEnvC scope cl C env)) (fun v h₃ => Mv VB h₂ h₃ ∧ ∃ d', Rd (C :: Dx :: I :: W) h₃ d' v ∧ J (i + 1) (acc ++ [d']) (C :: Dx :: I :: HB) h₃))
    (hsz : ds.length ≤ 100000) (k : ∀ acc h', acc.length = ds.length → Lx VB HB (J ds.length acc) hst V h0 W env ((y, .list acc) :: vars) os h' → Xs w A env PN PR h' rest)
    (hsw : swapsWith (.ListComp elt [⟨target, iter, [], 0⟩] scope pos) (some (.Name y py)) spos.line env = pure true := by rfl) (kd : locOk env y = true := by rfl)
    (hclos : closureFor scope env = pure cl := by rfl) (hkind : scope.kind = .function := by rfl) (hcell : ∀ y ∈ scope.names, y.2 ≠ .cell := by decide) (hnames : ∀ y ∈ scope.names, y.2 = .local → scope.names.lookup y.1 = some .local := by decide)
    (hcl : clOk env cl := by repeat constructor) (hnd : nodupB (cl.map (·.1)) = true := by rfl) (hbk : blockOk (relabel scope env).names xs vars = true := by rfl)
    (hs : ∀ x, foldedSetIterable iter env x = pure x := by intro _; rfl) : Xs w A env PN PR h (.Assign [.Name y py] (.ListComp elt [⟨target, iter, [], 0⟩] scope pos) spos :: rest) := fun s Q E he kn kr => by
  subst he
  refine wpAny_execs_cons ?_
  rw [exec_Assign_Name_used _ _ _ _ hsw]
  refine wpAny_bind (wpAny_standAt (wpAny_bind ?_))
  show wpAny _ A (do let _ ← comprehension (.ListComp elt [⟨target, iter, [], 0⟩] scope pos) scope env _ (PySem.newList []) false (eval iter env) (some (assign (.Name y py) env))) _ _ s
  refine wpAny_bind (wpAny_mono (wpAny_comprehension_free (use := some (assign (.Name y py) env)) (Q := fun _ s' => ∃ h' tk acc, s' = { s with heap := h', toks := tk } ∧ acc.length = ds.length ∧ Lx VB HB (J ds.length acc) hst V h0 W env ((y, .list acc) :: vars) os h') rfl hs hclos hkind hnames
    (src s _ E (Ext.refl _) fun I fp P St h1 tk1 x1 it hIs => ?_)) (fun _ s' hq => wpAny_pure (wpAny_pure ?_)) fun _ _ e => e)
  · refine comp_coreM (RR := fun acc C => compPost (model prg w) A E (some (assign (.Name y py) env)) (fun _ s' => ∃ h' tk acc, s' = { s with heap := h', toks := tk } ∧ acc.length = ds.length ∧ Lx VB HB (J ds.length acc) hst V h0 W env ((y, .list acc) :: vars) os h') acc C) sj L j0 hclos hcell hkind hcl (nodupB.of hnd) hbk rfl x1 it hIs hb (fun C Dx I i d acc h₂ a b c e _ => helt C Dx I i d acc h₂ a b c e) hsz fun Dx C h' tk m' ys acc ha hDC hDn hCn x2 lv n2 a2 r2 j2 => ?_
    have sC : s.heap.get? C = none := x1.gone hCn
    have sD : s.heap.get? Dx = none := x1.gone hDn
    have CW : C ∉ W := fun z => L.X.F.dm _ z sC
    have DW : Dx ∉ W := fun z => L.X.F.dm _ z sD
    have mv : Mv VB s.heap h' := fun b o q => by
      have q1 : h1.get? b = some o := x1 b o q
      have bI : b ≠ I := fun z => by rw [z, hIs] at q; exact nomatch q
      by_cases hv : b ∈ VB
      · cases y : h'.get? b with
        | none => exact absurd y (lv b hv)
        | some o' => exact ⟨o', rfl, fun n => absurd hv n⟩
      · exact ⟨o, x2 b o bI hv q1, fun _ => rfl⟩
    have X1 : Fx h' V h0 ([C] ++ W) env vars os h' := L.moveN (N := [C]) mv (fun b hb => by rw [List.mem_singleton.mp hb]; exact sC) (fun b hb => by rw [List.mem_singleton.mp hb]; exact Ns.some n2)
    have rv : Rd ([C] ++ W) h' (.list acc) (.ref Dx) := ⟨Dx, ys.toList, rfl, fun z => (List.mem_cons.mp z).elim hDC DW, by simpa using a2.isList, r2.to (To.less fun b hb => (List.mem_cons.mp hb).elim (fun z => z ▸ .head _) fun z => .tail _ (.tail _ (.tail _ z)))⟩
    show wpAny _ A (assign (.Name y py) env (.ref Dx)) _ _ _
    refine wpAny_assign_Name (X1.F.store (s := { s with heap := h', toks := tk }) rv kd fun h2 tk2 m2 F2 => ?_)
    have X2 := X1.stored m2 F2
    have Cf : C ∉ frA env := fun z => CW (L.X.F.inW _ z)
    refine ⟨m', n2.at' fun o e => m2.off _ o Cf e, fun h3 hs3 => ⟨h3, tk2, acc, rfl, ha, ?_⟩⟩
    have h0C : h0.get? C = none := L.X.F.ext.gone sC
    have ex : ExtO [C] h2 h3 := fun b o n e => hs3.extBut b o (fun z => n (List.mem_singleton.mpr z)) e
    have F3 : Fm h0 W env ((y, .list acc) :: vars) h3 := X2.F.drop ex h0C CW L.X.F.inW
    refine ⟨⟨F3, fun p hp => ?_, X2.nd, X2.inV, L.X.vW, Mv.refl _ _⟩, L.wB, L.vB, L.hW, L.mv.trans fun b o q => ?_, ?_⟩
    · obtain ⟨a, b, c, d⟩ := X2.own p hp
      have pC : p.1 ≠ C := fun z => CW (z ▸ L.X.vW _ b)
      exact ⟨a.to (fun b o nb e => ⟨fun z => nb (.tail _ z), ex b o (fun z => nb (by rw [List.mem_singleton.mp z]; exact .head _)) e⟩) fun o q => ex _ o (fun z => pC (List.mem_singleton.mp z)) q, b, c, d⟩
    · obtain ⟨o', q', z'⟩ := ((mv.sub fun b hb => List.mem_append_left V hb).trans (m2.sub fun b hb => List.mem_append_right VB (L.X.inV b hb))) b o q
      exact ⟨o', ex b o' (fun z => by rw [List.mem_singleton.mp z, sC] at q; cases q) q', z'⟩
    · refine sj _ _ j2 fun b o n q => ⟨fun z => n (.tail _ (.tail _ (.tail _ z))), ?_⟩
      have bF : b ∉ frA env := fun z => n (.tail _ (.tail _ (.tail _ (L.vH b (L.X.inV b z)))))
      exact ex b o (fun z => n (by rw [List.mem_singleton.mp z]; exact .head _)) (m2.off b o bF q)
  · obtain ⟨h', tk, acc, rfl, ha, L3⟩ := hq
    exact k acc h' ha L3 _ Q E rfl kn kr
end
end
section
variable {VB HB : List Addr} {hst : Heap}
structure Ws (hb : Heap) (VB HB W : List Addr) : Prop where
  wB : ∀ b ∈ W, b ∈ VB ∨ b ∈ HB
  vB : ∀ b ∈ VB, b ∈ W ∧ hb.get? b = none
  hW : ∀ b ∈ HB, b ∈ W
theorem Lx.ws {J : List Addr → Heap → Prop} (L : Lx VB HB J hst V h0 W env vars os h) : Ws h0 VB HB W := ⟨L.wB, fun b hb => ⟨(L.vB b hb).1, (L.vB b hb).2.2⟩, L.hW⟩
theorem Ws.cons (s : Ws hb VB HB W) (c : Addr) : Ws hb VB (c :: HB) (c :: W) :=
  ⟨fun b hb => (List.mem_cons.mp hb).elim (fun z => .inr (z ▸ .head _)) fun z => (s.wB b z).imp id fun z => .tail _ z, fun b hb => ⟨.tail _ (s.vB b hb).1, (s.vB b hb).2⟩, fun b hb => (List.mem_cons.mp hb).elim (fun z => z ▸ .head _) fun z => .tail _ (s.hW b z)⟩
noncomputable def LS (w : World) (a : BA) (fd : Addr) (Ls : List Int) (st : BS) (n : Nat) (HB : List Addr) (h : Heap) : Prop := Bk w (fd :: HB) a st h ∧ Feed (a.V ++ HB) h fd Ls n ∧ Ls.length ≤ 1000
theorem To.app {H' : List Addr} {h' : Heap} (t : To H h H' h') : To (V ++ H) h (V ++ H') h' := fun b o n e =>
  have q := t b o (fun z => n (List.mem_append_right _ z)) e
  ⟨fun z => (List.mem_append.mp z).elim (fun z => n (List.mem_append_left _ z)) q.1, q.2⟩
theorem To.two {H' : List Addr} {h' : Heap} (t : To H h H' h') : To2 V H h H' h' := ⟨t, t.app⟩
theorem LS.sta {fd : Addr} {Ls : List Int} {n : Nat} : Sta (LS w a fd Ls st n) := fun {H h H' h'} j t => ⟨j.1.to (To.two (To.app (V := [fd]) t)), j.2.1.to t.app, j.2.2⟩
variable {fd : Addr} {Ls : List Int} {n : Nat}
theorem Ws.dmF (s : Ws hb (fd :: a.V) HB W) (d : Dm W h) : Dm (fd :: (a.V ++ HB)) h := fun b hb => by
  rcases List.mem_cons.mp hb with z | z
  · exact d b (s.vB b (z ▸ .head _)).1
  · exact (List.mem_append.mp z).elim (fun z => d b (s.vB b (.tail _ z)).1) fun z => d b (s.hW b z)
theorem Ws.subF (s : Ws hb (fd :: a.V) HB W) : ∀ b ∈ fd :: (a.V ++ HB), b ∈ W := fun b hb => by
  rcases List.mem_cons.mp hb with z | z
  · exact (s.vB b (z ▸ .head _)).1
  · exact (List.mem_append.mp z).elim (fun z => (s.vB b (.tail _ z)).1) fun z => s.hW b z
theorem Ws.subV (s : Ws hb (fd :: a.V) HB W) : ∀ b ∈ a.V ++ (fd :: HB), b ∈ W := fun b hb => (List.mem_append.mp hb).elim (fun z => (s.vB b (.tail _ z)).1) fun z => (List.mem_cons.mp z).elim (fun z => (s.vB b (z ▸ .head _)).1) fun z => s.hW b z
theorem Ws.supV (s : Ws hb (fd :: a.V) HB W) : ∀ b ∈ W, b ∈ a.V ++ (fd :: HB) := fun b hb => (s.wB b hb).elim (fun z => (List.mem_cons.mp z).elim (fun z => z ▸ List.mem_append_right _ (.head _)) fun z => List.mem_append_left _ z) fun z => List.mem_append_right _ (.tail _ z)
theorem Ws.subP (s : Ws hb (fd :: a.V) HB W) : ∀ b ∈ fd :: HB, b ∈ W := fun b hb => (List.mem_cons.mp hb).elim (fun z => (s.vB b (z ▸ .head _)).1) fun z => s.hW b z
theorem Lw.dip {k : Nat} {fe me : Expr} {np pos : Pos} {many : Int} (g : Gd w mg mb hb) (F : Fm hb W env vars h) (s : Ws hb (fd :: a.V) HB W) (j : LS w a fd Ls st n HB h) (r : Rm A (k + 1)) (hn : n < 128) (mp : 0 < many)
    (hf : Ev w A W env h fe (.obj fd)) (hm : Ev w A W env h me (.int many)) (hst1 : starEach [fe, me] env = (false, eval fe env) :: starEach [me] env := by rfl) (hst2 : starEach [me] env = (false, eval me env) :: starEach [] env := by rfl)
    (hg : env.globals = mainGlobals := by rfl) (hk : env.scope.kind = .function := by rfl) (hl : env.kindOf (S "_law_dip") = some .globalImplicit := by rfl)
    (hs : eval (.Call (.Name (S "_law_dip") np) [fe, me] [] pos) env = (do let __do_lift ← eval (.Name (S "_law_dip") np) env; callWith pos __do_lift [] (backTo pos (starEach [fe, me] env)) (backToKw pos (keywordEach [] env))) := by rfl) :
    Mx w A h (eval (.Call (.Name (S "_law_dip") np) [fe, me] [] pos) env) (fun v h' => ∃ x : Int, 0 ≤ x ∧ x < many ∧ Mv (fd :: a.V) h h' ∧ LS w a fd Ls st (n + 1) HB h' ∧ ∃ t, v = .int x t) :=
  Mx.call (a := 554) (g.ext F.ext) (Ev.fn (H := W) (g.ext F.ext) (by kernel_rfl) hg hk hl (by decide)) (by kernel_rfl) (.cons hf (.cons hm .nil hst2) hst1) (fun vs h3 x3 rd => by
    have j3 := LS.sta j (To.ext x3)
    refine (dip_fn (H := a.V ++ HB) g (F.ext.trans x3) (r.le (by omega)) j3.2.1 (s.vB fd (.head _)).2 (s.dmF (F.dm.ext x3)) hn j.2.2 mp (rd.to (To.less s.subF))).imp fun v h' p => ?_
    obtain ⟨x, p1, p2, m, f, t⟩ := p
    refine ⟨x, p1, p2, x3.mv.trans (m.sub fun b hb => by rw [List.mem_singleton.mp hb]; exact .head _), ⟨j3.1.to (To2.mv m fun b hb => by rw [List.mem_singleton.mp hb]; exact .head _), f, j.2.2⟩, t⟩) hs
theorem Lw.meth {k : Nat} {o : Expr} {name : Str} {ap pos : Pos} {es : List Expr} {ds : List D} {f : Addr} {d : D} (g : Gd w mg mb hb) (F : Fm hb W env vars h) (s : Ws hb (fd :: a.V) HB W) (j : LS w a fd Ls st n HB h) (r : Rm A k)
    (ho : Ev w A W env h o (.obj a.b)) (as : Es w A W env h es ds) (mk : Mk w hb k (fd :: HB) a st st' f (.obj a.b :: ds) d) (hk : methOk (KF w.params) 408 name f = true) (ha : a.af name = none := by rfl) {pl : Sem Bool}
    (hs : eval (.Call (.Attribute o name ap) es [] pos) env = (do let ov ← eval o env; standAt (Pos.atName ap); let (f, first) ← holding [ov] (getMethod ov name pl); callWith pos f first (backTo pos (starEach es env)) []) := by rfl) :
    Mx w A h (eval (.Call (.Attribute o name ap) es [] pos) env) (fun v h' => Mv (fd :: a.V) h h' ∧ LS w a fd Ls st' n HB h' ∧ Rd W h' d v) :=
  Mx.meth (g.ext F.ext) ho j.1.ob.ob as (fun vs h3 x3 rd => by
    have j3 := LS.sta j (To.ext x3)
    refine (mk A h3 vs r (F.ext.trans x3) j3.1 (fun b hb => (s.vB b (.tail _ hb)).2) (fun b hb => (F.dm.ext x3) b (s.subV b hb)) (rd.to (To.less s.subV))).imp fun v h' p => ?_
    exact ⟨x3.mv.trans (p.1.sub fun b hb => .tail _ hb), ⟨p.2.1, j3.2.1.to (To.mv p.1 fun b hb => List.mem_append_left _ hb), j.2.2⟩, p.2.2.less s.supV⟩) ha hk hs
theorem Mv.ext0 {h' : Heap} (m : Mv [] h h') : Ext h h' := fun b o e => m.off b o List.not_mem_nil e
theorem Mx.tupF {e : Expr} {es : List Expr} {m : Nat} {pos : Pos} {d : D} {ds : List D} {R : Heap → Prop} (hm : Mx w A h (eval e env) (fun v h1 => R h1 ∧ Dm W h1 ∧ Rd W h1 d v)) (he : ∀ h1, R h1 → Es w A W env h1 es ds) (p : ∀ pos, (backTo pos (starEach es env)).any (·.1) = false)
    (hz : ds.length < 1000) (hst : starEach (e :: es) env = (false, eval e env) :: starEach es env := by rfl) : Mx w A h (eval (.Tuple (e :: es) m pos) env) (fun v h' => ∃ h1, R h1 ∧ Ext h1 h' ∧ Rd W h' (.tup (d :: ds)) v) := fun s Q E ee k => by
  refine Tuple_ ((Am.first (W := W) hm (fun v h1 q => he h1 q.1) p (R := fun vs h2 => ∃ h1, R h1 ∧ Ext h1 h2 ∧ Dm W h2 ∧ RdAll W h2 (d :: ds) vs) (fun v h1 vs h2 q x rd => ⟨h1, q.1, x, q.2.1.ext x, v, vs, rfl, q.2.2.ext x, rd⟩) hst).2 pos s _ E ee fun vs h2 tk2 ⟨h1, r1, x1, dm, rd⟩ => wpAny_newObj_type (k _ _ _ ⟨h1, r1, x1.trans (Ext.push _ _), Rd.newTup dm rd⟩) ?_)
  show vs.toArray.size ≤ sizeLine
  rw [List.size_toArray, rd.length]; exact Nat.le_trans (show (d :: ds).length ≤ 1000 by simp; omega) (by decide)
theorem Mx.sliceTo {v u : Expr} {ds : List D} {p pos : Pos} {R : Nat → Heap → Prop} (hd : Dm W h) (hv : Ev w A W env h v (.list ds)) (hu : ∀ h1, Ext h h1 → Mx w A h1 (eval u env) (fun x h2 => ∃ k : Nat, (∃ t, x = .int k t) ∧ Mv VB h1 h2 ∧ R k h2)) (hV : ∀ b ∈ VB, b ∈ W) (hz : ds.length ≤ 1000)
    (ht : ∀ o r, letTemporaryGo v o r = pure () := by intro _ _; rfl) :
    Mx w A h (eval (.Subscript v (.Slice none (some u) none p) pos) env) (fun r h' => ∃ k h2, R k h2 ∧ Mv VB h h2 ∧ Ext h2 h' ∧ Rd W h' (.list (ds.take k)) r) := fun s Q E e kq => by
  subst e
  refine wpAny_Subscript_Slice slot_list_getitem.lookup (hv s _ E (Ext.refl _) fun o h1 tk1 x1 ⟨l, vs, e1, nl, il, rl⟩ => wpAny_Slice ?_) ht
  subst e1
  show wpAny _ _ (pure Value.none) _ _ _
  refine wpAny_pure ?_
  refine hu h1 x1 { s with heap := h1, toks := tk1 } _ E rfl fun x h2 tk2 ⟨k, ⟨t, e2⟩, m2, r2⟩ => ?_
  subst e2
  show wpAny _ _ (pure Value.none) _ _ _
  refine wpAny_pure ?_
  have il2 : h2.IsList l vs.toArray := il.at fun o q => m2.off _ o (fun z => nl (hV _ z)) q
  have rl2 := rl.to (To.mv m2 hV)
  have d2 : Dm W h2 := m2.dm (hd.ext x1)
  have x3 : Ext h2 (h2.push { cls := .type "slice", data := .fields #[.none, .int k t, .none] }) := Ext.push _ _
  have il3 := il2.at fun o q => x3 _ o q
  refine ⟨il3.typeIs, wpAny_getItem_list_slice (s := { s with heap := h2.push { cls := .type "slice", data := .fields #[.none, .int k t, .none] }, toks := tk2 }) il3 (Heap.IsSliceOf.new ..) .none (.int _ _) .none (by simp) ?_ (by rw [List.size_toArray, rl.length]; exact Nat.le_trans hz (by decide))⟩
  refine kq _ _ _ ⟨k, h2, r2, x1.mv.trans m2, x3.trans (Ext.push _ _), _, vs.take k, rfl, (d2.ext x3).new, ⟨_, Heap.get?_push_size _ rfl, rfl, 0, ?_⟩, ?_⟩
  · rw [slicePick_upto']
  · have : ∀ {ds : List D} {vs : List Value} (k : Nat), RdAll W h2 ds vs → RdAll W h2 (ds.take k) (vs.take k) := fun {ds} => by
      induction ds with
      | nil => intro vs k r; cases r; simp; rfl
      | cons d ds ih =>
        intro vs k r
        obtain ⟨v, r', rfl, a, b⟩ := r
        cases k with
        | zero => exact rfl
        | succ k => exact ⟨v, _, rfl, a, ih k b⟩
    exact (this k rl2).ext (x3.trans (Ext.push _ _))
theorem Ev.sliceTo {v u : Expr} {ds : List D} {p pos : Pos} {k : Nat} (hd : Dm H h) (hv : Ev w A H env h v (.list ds)) (hu : Ev w A H env h u (.int k)) (hz : ds.length ≤ 1000)
    (ht : ∀ o r, letTemporaryGo v o r = pure () := by intro _ _; rfl) : Ev w A H env h (.Subscript v (.Slice none (some u) none p) pos) (.list (ds.take k)) := fun s Q E e kq => by
  refine Mx.sliceTo (VB := []) (W := H) (R := fun k' h2 => k' = k) (hd.ext e) (hv.up e) (fun h1 x1 => ((hu.up (e.trans x1)).mx.imp fun x h2 q => ⟨k, q.2, q.1.mv, rfl⟩)) (fun b hb => absurd hb List.not_mem_nil) hz ht s Q E rfl fun r h' tk ⟨k', h2, e', m, x, rd⟩ => ?_
  subst e'
  exact kq r h' tk (m.ext0.trans x) rd
theorem Mx.itemM {v i : Expr} {pos : Pos} {ds : List D} {R : Nat → Heap → Prop} (hv : Ev w A W env h v (.list ds)) (hi : ∀ h1, Ext h h1 → Mx w A h1 (eval i env) (fun x h2 => ∃ k : Nat, (∃ t, x = .int k t) ∧ k < ds.length ∧ Mv VB h1 h2 ∧ R k h2)) (hV : ∀ b ∈ VB, b ∈ W) (hz : ds.length ≤ 1000)
    (hs : ∀ a k t, subscripted i false (.ref a) (.int k t) = operate [.ref a, .int k t] (getItem (.ref a) (.int k t)) := by intro _ _ _; rfl) :
    Mx w A h (eval (.Subscript v i pos) env) (fun r h' => ∃ k d, ds[k]? = some d ∧ R k h' ∧ Mv VB h h' ∧ Rd W h' d r) := fun s Q E e kq => by
  subst e
  refine Subscript_ (hv s _ E (Ext.refl _) fun u h1 tk1 x1 ⟨a, vs, e1, n1, hl, r1⟩ => hi h1 x1 _ _ E rfl fun u2 h2 tk2 ⟨k, ⟨t, e2⟩, hk, m2, r2⟩ => ?_)
  subst e1 e2
  have hl := hl.at fun o q => m2.off _ o (fun z => n1 (hV _ z)) q
  obtain ⟨d, hd⟩ : ∃ d, ds[k]? = some d := ⟨ds[k], List.getElem?_eq_getElem hk⟩
  obtain ⟨z, z1, z2⟩ := r1.get k hd
  exact tail_any (s := { s with heap := h2, toks := tk2 }) hl.typeIs slot_list_getitem.lookup (wpAny_getItem_list hl (by omega) (by omega) (by simpa using z1) (kq z h2 tk2 ⟨k, d, hd, r2, x1.mv.trans m2, z2.to (To.mv m2 hV)⟩)) (hs a k t)
theorem Mx.binM {l r : Expr} {op : Operator} {pos : Pos} {a b d : D} {R : Heap → Prop} (hl : Ev w A W env h l a) (hr : ∀ h1, Ext h h1 → Mx w A h1 (eval r env) (fun v h2 => Mv VB h1 h2 ∧ R h2 ∧ Rd W h2 b v)) (hV : ∀ b ∈ VB, b ∈ W) (o : ∀ h2, Mv VB h h2 → Bin w A W h2 op a b d) :
    Mx w A h (eval (.BinOp l op r pos) env) (fun v h' => ∃ h2, R h2 ∧ Mv VB h h2 ∧ Ext h2 h' ∧ Rd W h' d v) := fun s Q E e k => by
  subst e
  exact wpAny_BinOp (hl s _ E (Ext.refl _) fun u h1 tk1 x1 r1 => hr h1 x1 _ _ E rfl fun v h2 tk2 ⟨m2, rr, r2⟩ => o h2 (x1.mv.trans m2) u v h2 (Ext.refl _) (r1.to (To.mv m2 hV)) r2 _ Q E (Ext.refl _) fun q h3 tk3 x3 r3 => k q h3 tk3 ⟨h2, rr, x1.mv.trans m2, x3, r3⟩)
theorem Mx.binL {l r : Expr} {op : Operator} {pos : Pos} {a b d : D} {R : Heap → Prop} (hl : Mx w A h (eval l env) (fun v h1 => R h1 ∧ Rd W h1 a v)) (hr : ∀ h1, R h1 → Ev w A W env h1 r b) (o : ∀ h1, R h1 → Bin w A W h1 op a b d) :
    Mx w A h (eval (.BinOp l op r pos) env) (fun v h' => ∃ h1, R h1 ∧ Ext h1 h' ∧ Rd W h' d v) := fun s Q E e k => by
  exact wpAny_BinOp (hl s _ E e fun u h1 tk1 ⟨rr, r1⟩ => hr h1 rr _ _ E (Ext.refl _) fun v h2 tk2 x2 r2 => o h1 rr u v h2 x2 (r1.ext x2) r2 _ Q E (Ext.refl _) fun q h3 tk3 x3 r3 => k q h3 tk3 ⟨h1, rr, x2.trans x3, r3⟩)
end
section
variable {VB HB W0 : List Addr} {hst : Heap} {fd : Addr} {Ls : List Int} {n : Nat}
theorem Lx.enter {J : List Addr → Heap → Prop} {h1 : Heap} (sj : Sta J) (s : Ws hb VB HB W0) (dm : Dm W0 h) (j : J HB h) (x1 : Ext h h1) (fr : ∀ b ∈ frA env, h.get? b = none) (F : Fm hb (frA env ++ W0) env vars h1) : Lx VB (frA env ++ HB) J h1 (frA env) hb (frA env ++ W0) env vars [] h1 :=
  ⟨Fx.of F, fun b hb => (List.mem_append.mp hb).elim (fun z => .inr (List.mem_append_left _ z)) fun z => (s.wB b z).imp id fun z => List.mem_append_right _ z, fun b hb => ⟨List.mem_append_right _ (s.vB b hb).1, fun z => dm b (s.vB b hb).1 (fr b z), (s.vB b hb).2⟩,
    fun b hb => (List.mem_append.mp hb).elim (fun z => List.mem_append_left _ z) fun z => List.mem_append_right _ (s.hW b z), Mv.refl _ _, sj j (To.more x1 fun b hb => (List.mem_append.mp hb).elim (fun z => .inr (fr b z)) .inl)⟩
theorem Lx.leave {J : List Addr → Heap → Prop} {h1 h' : Heap} {HB' W : List Addr} (L : Lx VB HB' J h1 V hb W env vars os h') (x1 : Ext h h1) (fr : ∀ b ∈ V, h.get? b = none) : Mv VB h h' :=
  Mv.fresh (N := V) ((x1.mv.trans L.mv).sub fun b hb => (List.mem_append.mp hb).elim (fun z => List.mem_append_right _ z) fun z => List.mem_append_left _ z) fr
noncomputable def appK (s : Int) (i : Int) : Key := (S "app", [], s, i)
noncomputable def ts8 : List Key := [trueK, falseK, appK 0 0, appK 0 1, appK 0 2, appK 3 3, appK 3 4, appK 3 5]
noncomputable def notK (t : Int) : Key := (S "not", [t], 0, 0)
noncomputable def notKs : List Key := [notK 3, notK 4, notK 5]
noncomputable def stN (i : Nat) : BS := ⟨ts8 ++ notKs.take i, 4, 6⟩
noncomputable abbrev st8 : BS := stN 0
noncomputable abbrev st11 : BS := stN 3
noncomputable def pool : List Int := [3, 4, 5, 9, 10, 11, 1, 2]
theorem pool_ok : ∀ x ∈ pool, st11.is x ∧ st11.sort x = 0 := by
  have : ∀ x ∈ pool, (0 < x ∧ x ≤ (st11.ts.length : Int)) ∧ st11.sort x = 0 := by decide +kernel
  exact this
theorem stN_made (i : Nat) (hi : i < 3) : (stN i).made (notK (3 + i)) = stN (i + 1) ∧ (stN i).numM (notK (3 + i)) = 9 + i ∧ (stN i).is (3 + i) ∧ (stN i).sort (3 + i) = 0 ∧ (stN i).op (3 + i) ≠ S "not" := by
  obtain rfl | rfl | rfl : i = 0 ∨ i = 1 ∨ i = 2 := by omega
  · exact ⟨by kernel_rfl, by kernel_rfl, ⟨by decide, by decide⟩, by kernel_rfl, by decide +kernel⟩
  · exact ⟨by kernel_rfl, by kernel_rfl, ⟨by decide, by decide⟩, by kernel_rfl, by decide +kernel⟩
  · exact ⟨by kernel_rfl, by kernel_rfl, ⟨by decide, by decide⟩, by kernel_rfl, by decide +kernel⟩
inductive Drawn : BS → Int → Str → List Int → Prop
  | and {is : List Int} (l : is.length = 2 ∨ is.length = 3) (p : ∀ x ∈ is, x ∈ pool) : Drawn (st11.made (S "and", is, 0, 0)) (st11.numM (S "and", is, 0, 0)) (S "and") is
  | or {is : List Int} (l : is.length = 2 ∨ is.length = 3) (p : ∀ x ∈ is, x ∈ pool) : Drawn (st11.made (S "or", is, 0, 0)) (st11.numM (S "or", is, 0, 0)) (S "or") is
  | xor {x y : Int} (p : x ∈ pool) (q : y ∈ pool) : Drawn (st11.made (S "xor", [x, y], 0, 0)) (st11.numM (S "xor", [x, y], 0, 0)) (S "xor") [x, y]
  | imp {x y : Int} (p : x ∈ pool) (q : y ∈ pool) : Drawn (st11.made (S "=>", [x, y], 0, 0)) (st11.numM (S "=>", [x, y], 0, 0)) (S "=>") [x, y]
  | eq {x y : Int} (p : x ∈ pool) (q : y ∈ pool) : Drawn (st11.eqd x y) (st11.eqN x y) (S "=") [x, y]
  | ite {x y z : Int} (p : x ∈ pool) (q : y ∈ pool) (r : z ∈ pool) : Drawn (st11.made (S "ite", [x, y, z], 0, 0)) (st11.numM (S "ite", [x, y, z], 0, 0)) (S "ite") [x, y, z]
  | dist {x y : Int} (p : x ∈ pool) (q : y ∈ pool) : Drawn ((st11.eqd x y).made (S "distinct", [x, y], 0, 0)) ((st11.eqd x y).numM (S "distinct", [x, y], 0, 0)) (S "distinct") [x, y]
theorem Mx.binE {l r : Expr} {op : Operator} {pos : Pos} {a : D} {β : Type} {b d : β → D} {R : β → Heap → Prop} (hl : Ev w A W env h l a) (hr : ∀ h1, Ext h h1 → Mx w A h1 (eval r env) (fun v h2 => Mv VB h1 h2 ∧ ∃ x, R x h2 ∧ Rd W h2 (b x) v)) (hV : ∀ b ∈ VB, b ∈ W) (o : ∀ x h2, R x h2 → Bin w A W h2 op a (b x) (d x)) :
    Mx w A h (eval (.BinOp l op r pos) env) (fun v h' => ∃ x h2, R x h2 ∧ Mv VB h h2 ∧ Ext h2 h' ∧ Rd W h' (d x) v) := fun s Q E e k => by
  subst e
  exact wpAny_BinOp (hl s _ E (Ext.refl _) fun u h1 tk1 x1 r1 => hr h1 x1 _ _ E rfl fun v h2 tk2 ⟨m2, x, rr, r2⟩ => o x h2 rr u v h2 (Ext.refl _) (r1.to (To.mv m2 hV)) r2 _ Q E (Ext.refl _) fun q h3 tk3 x3 r3 => k q h3 tk3 ⟨x, h2, rr, x1.mv.trans m2, x3, r3⟩)
theorem BS.made_get {k : Key} {t : Int} (i : st.is t) : (st.made k).is t ∧ (st.made k).op t = st.op t ∧ (st.made k).args t = st.args t ∧ (st.made k).sort t = st.sort t := by
  unfold BS.made
  split
  · have hl : (t - 1).toNat < st.ts.length := by have := i.1; have := i.2; omega
    have e : (st.ts ++ [k])[(t - 1).toNat]? = st.ts[(t - 1).toNat]? := List.getElem?_append_left hl
    refine ⟨⟨i.1, by have := i.2; simp; omega⟩, ?_, ?_, ?_⟩
    · unfold BS.op; rw [e]
    · unfold BS.args; rw [e]
    · unfold BS.sort; rw [e]
  · exact ⟨i, rfl, rfl, rfl⟩
theorem BS.made_len {k : Key} : (st.made k).ts.length ≤ st.ts.length + 1 := by
  unfold BS.made
  split
  · simp
  · omega
theorem BS.eqd_get {x y t : Int} (i : st.is t) : (st.eqd x y).is t ∧ (st.eqd x y).op t = st.op t ∧ (st.eqd x y).args t = st.args t ∧ (st.eqd x y).sort t = st.sort t := by
  unfold BS.eqd
  split
  · exact ⟨i, rfl, rfl, rfl⟩
  · exact BS.made_get i
theorem BS.eqd_len {x y : Int} : (st.eqd x y).ts.length ≤ st.ts.length + 1 := by
  unfold BS.eqd
  split
  · omega
  · exact BS.made_len
theorem lk566 : (KF w.params).lookup 566 = some o566 := by kernel_rfl
noncomputable def waysN : List Int := [3, 3, 2, 2, 2, 3, 2]
noncomputable def waysM : List Nat := [3, 3, 2, 2, 2, 3, 2]
theorem ways_eq : ∀ k : Nat, k < 7 → waysN[k]! = (waysM[k]! : Nat) := by decide
theorem ways_le : ∀ k : Nat, k < 7 → waysM[k]! ≤ 3 := by decide
noncomputable abbrev eD (L0 : Addr) : Env := envOfC (S "_law_drawn") (dScope (top 18)) L0 566 (.ref 565)
theorem le23 {n : Nat} (l : n = 2 ∨ n = 3) : 2 ≤ n ∧ n ≤ 1000 := by omega
theorem drawRet {op : Str} {d : D} {e : Expr} {p1 p2 p3 pos : Pos} {kk m : Nat} {t : Int} {h1 : Heap}
    (L : Lx (fd :: a.V) HB (LS w a fd Ls st n) h1 V hb W env vars [] h) (c : Mx w A h (eval e env) (fun v h' => Mv (fd :: a.V) h h' ∧ LS w a fd Ls st' n HB h' ∧ Rd W h' (.int t) v))
    (f : ∀ v h8 h', Lx (fd :: a.V) HB (LS w a fd Ls st' n) h1 V hb W env vars [] h8 → Ext h8 h' → Rd W h' (.tup [.int t, .str op, d]) v → PR v h')
    (hl : vars.lookup (S "ends") = some d := by rfl) (kd : locOk env (S "ends") = true := by rfl) (hst : starEach [e, .Constant (.str op) kk p1, .Name (S "ends") p2] env = (false, eval e env) :: starEach [.Constant (.str op) kk p1, .Name (S "ends") p2] env := by rfl) :
    Xs w A env PN PR h (.Return (some (.Tuple [e, .Constant (.str op) kk p1, .Name (S "ends") p2] m pos)) p3 :: rest) :=
  Xs.ret ((Mx.tupF (R := fun h8 => Lx (fd :: a.V) HB (LS w a fd Ls st' n) h1 V hb W env vars [] h8) (c.imp fun v h8 p => ⟨L.eff p.1 p.2.1, p.1.dm L.X.F.dm, p.2.2⟩) (fun h8 L8 => .cons Ev.str (.cons (L8.X.F.var hl kd) .nil rfl) rfl) (fun _ => rfl) (by simp) hst).imp fun v h' p => by
    obtain ⟨h8, L8, x8, rv⟩ := p
    exact f v h8 h' L8 x8 rv)
theorem drawn_fn {vs : List Value} (g : Gd w mg mb hb) (e : Ext hb h) (hm : Rm A 6) (ws : Ws hb (fd :: a.V) HB W0) (dm : Dm W0 h) (j : LS w a fd Ls st8 n HB h) (hn : n ≤ 50) (rd : RdAll W0 h [.obj fd, .obj a.b, .list ([3, 4, 5].map .int)] vs) :
    Mx w A h (PySem.call (.ref 566) vs) (fun v h' => ∃ st' t op is n', Drawn st' t op is ∧ n' ≤ n + 5 ∧ Mv (fd :: a.V) h h' ∧ LS w a fd Ls st' n' HB h' ∧ Rd W0 h' (.tup [.int t, .str op, .list (is.map .int)]) v) := by
  refine Mx.enter (ps := [S "feed", S "bank_now", S "consts"]) (H := W0) (h0 := hb) (k := 5) g e hm dm rd lk566 (by kernel_rfl) (args3 fun _ _ _ => rfl) rfl (fun n => rfl) (by decide) rfl rfl rfl (fun L0 A' h1 r F x1 fr => ?_)
  conv => arg 7; whnf
  refine Xs.hide fun PN PR kn kr => ?_
  have L := Lx.enter (J := LS w a fd Ls st8 n) LS.sta ws dm j x1 fr F
  generalize hHB : frA (eD L0) ++ HB = HB' at L
  generalize hW : frA (eD L0) ++ W0 = W at L
  have s0 : Sta (LS w a fd Ls st11 n) := LS.sta
  refine Lx.asgD (d := .list (pool.map .int)) (J' := LS w a fd Ls st11 n) s0 L ?_ fun h2 L2 => ?_
  · have g1 := g.ext L.X.F.ext
    refine (Mx.binL (a := .list ([3, 4, 5, 9, 10, 11].map .int)) (b := .list [.int 1, .int 2]) (d := .list (pool.map .int)) (R := fun h2 => Mv (fd :: a.V) h1 h2 ∧ Lx (fd :: a.V) HB' (LS w a fd Ls st11 n) h1 (frA (eD L0)) hb W (eD L0) [(S "consts", .list ([3, 4, 5].map .int)), (S "bank_now", .obj a.b), (S "feed", .obj fd)] [] h2) ?_ (fun h2 p => ?_) (fun h2 p => Bin.cat p.2.X.F.dm (by decide))).imp fun v h' p => ?_
    · refine (Mx.binM (a := .list ([3, 4, 5].map .int)) (b := .list ([9, 10, 11].map .int)) (d := .list ([3, 4, 5, 9, 10, 11].map .int)) (VB := fd :: a.V) (R := fun h2 => Lx (fd :: a.V) HB' (LS w a fd Ls st11 n) h1 (frA (eD L0)) hb W (eD L0) [(S "consts", .list ([3, 4, 5].map .int)), (S "bank_now", .obj a.b), (S "feed", .obj fd)] [] h2) (Ev.listOf g1 L.X.F.dm L.X.F.var (by decide)) (fun h2 x2 => ?_) (fun b hb => (L.vB b hb).1) (fun h2 m => Bin.cat (m.dm L.X.F.dm) (by decide))).imp fun v h' p => ?_
      · have L2 := L.up LS.sta x2
        refine (Mx.lcM (J := fun i acc HB h => acc = ([9, 10, 11].map D.int).take i ∧ LS w a fd Ls (stN i) n HB h) (xs := [S "t"]) (pt := fun d => [d]) (fun i acc H h H' h' q t => ⟨q.1, LS.sta q.2 t⟩) L2 (fun q => ⟨rfl, q⟩) (Src.list r.hd L2.X.F.var) (fun C I H' d hd hC => Binds.name rfl rfl hC) (fun C Dx I i d acc h3 hd ha j F' => ?_) (by decide)).imp fun v h' p => ?_
        · obtain ⟨hi, rfl⟩ := at_i hd
          have hi' : i < 3 := hi
          obtain ⟨q1, q2, q3, q4, q5⟩ := stN_made i hi'
          have ex : ([3, 4, 5] : List Int)[i] = 3 + i := by
            have : ∀ i : Nat, ∀ h : i < 3, ([3, 4, 5] : List Int)[i]'h = 3 + i := by decide
            exact this i hi'
          rw [ex] at F'
          have W3 := ((L2.ws.cons I).cons Dx).cons C
          refine (Lw.meth (st' := (stN i).made (notK (3 + i))) g F' W3 j.2 (r.le (by decide)) F'.var (.cons F'.var .nil rfl) (not_fn g (by show _ < _; simp [stN, ts8, notKs]; omega) ⟨q3, q4⟩ q5 (by omega) (by omega)) (by kernel_rfl)).imp fun v h' p => ?_
          refine ⟨p.1, _, p.2.2, ?_, q1 ▸ p.2.1⟩
          rw [j.1]
          have : ∀ i : Nat, i < 3 → (([9, 10, 11] : List Int).take i ++ [9 + (i : Int)]) = ([9, 10, 11] : List Int).take (i + 1) := by decide
          show List.take i ([9, 10, 11].map D.int) ++ [D.int ((stN i).numM (notK (3 + i)))] = _
          rw [q2, ← List.map_take, ← List.map_take, ← this i hi', List.map_append]; rfl
        · obtain ⟨acc, ha, mv, ⟨q, j⟩, rv⟩ := p
          have : acc = [9, 10, 11].map D.int := q
          subst this
          exact ⟨mv, L2.eff mv j, rv⟩
      · obtain ⟨h2, L2, m2, x2, rv⟩ := p
        exact ⟨⟨m2.trans x2.mv, L2.up LS.sta x2⟩, rv⟩
    · exact Ev.list p.2.X.F.dm (.cons (Ev.intAny (H := fd :: HB') (Ev.meth (g.ext p.2.X.F.ext) r (p.2.X.F.var.less p.2.ws.subP) p.2.j.1.ob.ob (.cons Ev.cbool .nil rfl) ((bool_fn (g.ext p.2.X.F.ext) (fun b hb => p.2.X.F.dm b (p.2.ws.subP b hb)) p.2.j.1).le (by decide)) rfl (by kernel_rfl))) (.cons (Ev.intAny (H := fd :: HB') (Ev.meth (g.ext p.2.X.F.ext) r (p.2.X.F.var.less p.2.ws.subP) p.2.j.1.ob.ob (.cons Ev.cbool .nil rfl) ((bool_fn (g.ext p.2.X.F.ext) (fun b hb => p.2.X.F.dm b (p.2.ws.subP b hb)) p.2.j.1).le (by decide)) rfl (by kernel_rfl))) .nil rfl) rfl)
    · obtain ⟨h2, p, x, rv⟩ := p
      exact ⟨p.1.trans x.mv, LS.sta p.2.j (To.ext x), rv⟩
  refine Lx.asgE (Q := fun k : Nat => k < 7) (d := fun k : Nat => .int k) (J' := fun _ => LS w a fd Ls st11 (n + 1)) (fun _ => LS.sta) L2 ((Lw.dip g L2.X.F L2.ws L2.j r (by omega) (by decide) L2.X.F.var Ev.int).imp fun v h' p => ?_) fun k h3 hk L3 => ?_
  · obtain ⟨x, p1, p2, m, j, t⟩ := p
    refine ⟨x.toNat, by omega, m, j, ?_⟩
    rw [Int.toNat_of_nonneg p1]; exact t
  have L3 := L3.pick (vs := [(S "way", .int k), (S "some", .list (pool.map .int)), (S "bank_now", .obj a.b), (S "feed", .obj fd)]) ⟨rfl, rfl, rfl, rfl, trivial⟩
  have we := ways_eq k hk
  have wl := ways_le k hk
  refine Lx.asgC (J := fun i acc HB h => ∃ is : List Int, acc = is.map .int ∧ (∀ x ∈ is, x ∈ pool) ∧ LS w a fd Ls st11 (n + 1 + i) HB h) (ds := (List.range waysM[k]!).map fun i => D.int (i : Nat)) (xs := [S "k"]) (pt := fun d => [d]) (fun i acc H h H' h' q t => by obtain ⟨is, a, b, c⟩ := q; exact ⟨is, a, b, LS.sta c t⟩) L3 (fun q => ⟨[], rfl, fun x hx => absurd hx List.not_mem_nil, q⟩)
    (Src.rangeN (g.ext L3.X.F.ext) r.hd (Ev.cast (Ev.tupAt (l := waysN) (k := k) (Ev.tup L3.X.F.dm (.cons Ev.int (.cons Ev.int (.cons Ev.int (.cons Ev.int (.cons Ev.int (.cons Ev.int (.cons Ev.int .nil rfl) rfl) rfl) rfl) rfl) rfl) rfl)) L3.X.F.var hk (by decide)) (congrArg D.int we)) (by omega) (by kernel_rfl) (by kernel_rfl)) (fun C I H' d hd hC => Binds.name rfl rfl hC) (fun C Dx I i d acc h4 hd ha j F' => ?_) (by rw [List.length_map, List.length_range]; omega) fun acc h4 ha L4 => ?_
  · obtain ⟨is, rfl, hp, j⟩ := j
    have hi := (range_get hd).1
    have W4 := ((L3.ws.cons I).cons Dx).cons C
    refine (Mx.itemM (VB := fd :: a.V) (ds := pool.map .int) (R := fun _ h' => LS w a fd Ls st11 (n + 1 + i + 1) (C :: Dx :: I :: HB') h') F'.var (fun h5 x5 => ?_) (fun b hb => (W4.vB b hb).1) (by decide)).imp fun v h' p => ?_
    · have F5 := F'.up x5
      refine (Lw.dip g F5 W4 (LS.sta j (To.ext x5)) r (by omega) (many := 8) (by decide) F5.var (Ev.lenL (ds := pool.map .int) (g.ext F5.ext) (nmB (g.ext F5.ext) (by kernel_rfl) (by kernel_rfl)) (by decide) F5.var _)).imp fun v h' p => ?_
      obtain ⟨x, p1, p2, m, j, t, rfl⟩ := p
      exact ⟨x.toNat, ⟨t, by rw [Int.toNat_of_nonneg p1]⟩, by show x.toNat < 8; omega, m, j⟩
    · obtain ⟨k', d', hd', j', m', rv⟩ := p
      obtain ⟨hk', rfl⟩ := at_i hd'
      refine ⟨m', _, rv, is ++ [pool[k']], by simp, fun x hx => ?_, j'⟩
      rcases List.mem_append.mp hx with hx | hx
      · exact hp x hx
      · rw [List.mem_singleton.mp hx]; exact List.getElem_mem _
  have L4 : ∃ is : List Int, acc = is.map .int ∧ (∀ x ∈ is, x ∈ pool) ∧ Lx (fd :: a.V) HB' (LS w a fd Ls st11 (n + 1 + waysM[k]!)) h1 (frA (eD L0)) hb W (eD L0) [(S "ends", .list (is.map .int)), (S "way", .int k), (S "bank_now", .obj a.b), (S "feed", .obj fd)] [] h4 := by
    obtain ⟨is, e1, e2, e3⟩ := L4.j
    rw [List.length_map, List.length_range] at e3
    subst e1
    exact ⟨is, rfl, e2, (L4.pick (vs := [(S "ends", .list (is.map .int)), (S "way", .int k), (S "bank_now", .obj a.b), (S "feed", .obj fd)]) ⟨rfl, rfl, rfl, rfl, trivial⟩).imp fun _ => e3⟩
  obtain ⟨is, rfl, hp, L4⟩ := L4
  rw [List.length_map, List.length_map, List.length_range] at ha
  refine Xs.ite (b := decide ((k : Int) < 2)) (PN' := fun h' => ∃ (is : List Int) (n' : Nat), (∀ x ∈ is, x ∈ pool) ∧ (k < 2 → is.length = 2 ∨ is.length = 3) ∧ (¬ k < 2 → is.length = waysM[k]!) ∧ n' ≤ n + 5 ∧ Lx (fd :: a.V) HB' (LS w a fd Ls st11 n') h1 (frA (eD L0)) hb W (eD L0) [(S "ends", .list (is.map .int)), (S "way", .int k), (S "bank_now", .obj a.b), (S "feed", .obj fd)] [] h') (Et.cmp L4.X.F.var Ev.int Cm.ltI) (fun h5 x5 => ?_) (fun h5 p => ?_)
  · have L5 := L4.up LS.sta x5
    by_cases z : k < 2
    · have w3 : waysM[k]! = 3 := by
        have : ∀ k : Nat, k < 2 → waysM[k]! = 3 := by decide
        exact this k z
      rw [if_pos (by simpa using (by omega : (k : Int) < 2))]
      refine Lx.asgE (Q := fun j : Nat => j < 2) (d := fun j : Nat => .list ((is.map D.int).take (2 + j))) (J' := fun _ => LS w a fd Ls st11 (n + 1 + waysM[k]! + 1)) (fun _ => LS.sta) L5 ((Mx.sliceTo (VB := fd :: a.V) (R := fun j h' => ∃ i : Nat, i < 2 ∧ j = 2 + i ∧ LS w a fd Ls st11 (n + 1 + waysM[k]! + 1) HB' h') L5.X.F.dm L5.X.F.var (fun h6 x6 => ?_) (fun b hb => (L5.vB b hb).1) (by rw [List.length_map]; omega)).imp fun v h' p => ?_) fun i h6 q1 L6 => ?_
      · have L6 := L5.up LS.sta x6
        refine (Mx.binE (VB := fd :: a.V) (a := .int 2) (b := fun i : Nat => .int i) (d := fun i : Nat => .int (2 + i)) (R := fun i h' => i < 2 ∧ LS w a fd Ls st11 (n + 1 + waysM[k]! + 1) HB' h') Ev.int (fun h7 x7 => ?_) (fun b hb => (L5.vB b hb).1) (fun x h' _ => Bin.add)).imp fun v h' p => ?_
        · have L7 := L6.up LS.sta x7
          refine (Lw.dip g L7.X.F L7.ws L7.j r (by omega) (many := 2) (by decide) L7.X.F.var Ev.int).imp fun v h' p => ?_
          obtain ⟨x, p1, p2, m, j, t, rfl⟩ := p
          exact ⟨m, x.toNat, ⟨by omega, j⟩, t, by rw [Int.toNat_of_nonneg p1]⟩
        · obtain ⟨i, h2, ⟨q1, q2⟩, m, x, t, rfl⟩ := p
          exact ⟨2 + i, ⟨t, rfl⟩, m.trans x.mv, i, q1, rfl, LS.sta q2 (To.ext x)⟩
      · obtain ⟨j, h2, ⟨i, q1, rfl, q3⟩, m, x, rv⟩ := p
        exact ⟨i, q1, m.trans x.mv, LS.sta q3 (To.ext x), rv⟩
      · refine Xs.nil ⟨is.take (2 + i), _, fun x hx => hp x (List.mem_of_mem_take hx), fun _ => ?_, fun z' => absurd z z', by omega, (List.map_take ▸ L6).pick ⟨rfl, rfl, rfl, rfl, trivial⟩⟩
        rw [List.length_take, ha, w3]; omega
    · rw [if_neg (by simpa using (by omega : ¬ (k : Int) < 2))]
      exact Xs.nil ⟨is, _, hp, fun z' => absurd z' z, fun _ => ha, by omega, L5⟩
  obtain ⟨is, n', hp, l1, l2, hn', L5⟩ := p
  have pi : ∀ i, i < is.length → is[i]! ∈ pool := fun i hi => by rw [getElem!_pos is i hi]; exact hp _ (List.getElem_mem _)
  have sz11 : st11.ts.length < 1000 := by decide
  have fin : ∀ {v : Value} {h6 h7 : Heap} {st' : BS} {t : Int} {op : Str} {is is2 : List Int}, Drawn st' t op is2 → is = is2 → Lx (fd :: a.V) HB' (LS w a fd Ls st' n') h1 (frA (eD L0)) hb W (eD L0) [(S "ends", .list (is.map .int)), (S "way", .int k), (S "bank_now", .obj a.b), (S "feed", .obj fd)] [] h6 → Ext h6 h7 → Rd W h7 (.tup [.int t, .str op, .list (is.map .int)]) v →
      PR v h7 := fun dr e0 L x rv => kr _ _
    ⟨_, _, _, _, n', dr, hn', (L.up LS.sta x).leave x1 fr, LS.sta L.j (fun b o nb e => ⟨fun z => nb (hHB ▸ List.mem_append_right _ z), x b o e⟩), (e0 ▸ rv.less) fun b hb => hW ▸ List.mem_append_right _ hb⟩
  refine Xs.iff (Et.cmp L5.X.F.var Ev.int Cm.eqI) (fun z h6 x6 => ?_) (fun z h6 x6 => ?_)
  · have l1 := l1 (by rw [show k = 0 from Int.ofNat.inj (beq_iff_eq.mp z)]; decide)
    have L6 := L5.up LS.sta x6
    exact drawRet L6 (Lw.meth g L6.X.F L6.ws L6.j (r.le (by decide)) L6.X.F.var (.cons L6.X.F.var .nil rfl) (and_fn g sz11 (fun t ht => pool_ok t (hp t ht)) (le23 l1).1 (le23 l1).2) (by kernel_rfl)) fun v h8 h' L8 x8 rv => fin (Drawn.and l1 hp) rfl L8 x8 rv
  have z0 := beq_noI z
  have L6 := L5.up LS.sta x6
  clear z x6
  refine Xs.iff (Et.cmp L6.X.F.var Ev.int Cm.eqI) (fun z h6 x6 => ?_) (fun z h6 x6 => ?_)
  · have l1 := l1 (by rw [show k = 1 from Int.ofNat.inj (beq_iff_eq.mp z)]; decide)
    have L6 := L6.up LS.sta x6
    exact drawRet L6 (Lw.meth g L6.X.F L6.ws L6.j (r.le (by decide)) L6.X.F.var (.cons L6.X.F.var .nil rfl) (or_fn g sz11 (fun t ht => pool_ok t (hp t ht)) (le23 l1).1 (le23 l1).2) (by kernel_rfl)) fun v h8 h' L8 x8 rv => fin (Drawn.or l1 hp) rfl L8 x8 rv
  have z1 := beq_noI z
  have L7 := L6.up LS.sta x6
  clear z x6
  refine Xs.iff (Et.cmp L7.X.F.var Ev.int Cm.eqI) (fun z h6 x6 => ?_) (fun z h6 x6 => ?_)
  · have z' : (k : Int) = 2 := beq_iff_eq.mp z
    have L6 := L7.up LS.sta x6
    have k2 : k = 2 := Int.ofNat.inj z'
    have len : is.length = 2 := (l2 (by rw [k2]; decide)).trans (by rw [k2]; rfl)
    have e0 := l2i len
    have b0 : 0 < is.length := by rw [len]; decide
    have b1 : 1 < is.length := by rw [len]; decide
    exact drawRet L6 (Lw.meth g L6.X.F L6.ws L6.j (r.le (by decide)) L6.X.F.var (.cons (Ev.itemL (k := 0) (ds := is.map .int) L6.X.F.var Ev.int (by decide) (get_int (i := 0) b0) (by decide)) (.cons (Ev.itemL (k := 1) (ds := is.map .int) L6.X.F.var Ev.int (by decide) (get_int (i := 1) b1) (by decide)) .nil rfl) rfl) (xor_fn g sz11 (pool_ok _ (pi 0 b0)) (pool_ok _ (pi 1 b1))) (by kernel_rfl)) fun v h8 h' L8 x8 rv => fin (Drawn.xor (pi 0 b0) (pi 1 b1)) e0 L8 x8 rv
  have z2 := beq_noI z
  have L8 := L7.up LS.sta x6
  clear z x6
  refine Xs.iff (Et.cmp L8.X.F.var Ev.int Cm.eqI) (fun z h6 x6 => ?_) (fun z h6 x6 => ?_)
  · have z' : (k : Int) = 3 := beq_iff_eq.mp z
    have L6 := L8.up LS.sta x6
    have k3 : k = 3 := Int.ofNat.inj z'
    have len : is.length = 2 := (l2 (by rw [k3]; decide)).trans (by rw [k3]; rfl)
    have e0 := l2i len
    have b0 : 0 < is.length := by rw [len]; decide
    have b1 : 1 < is.length := by rw [len]; decide
    exact drawRet L6 (Lw.meth g L6.X.F L6.ws L6.j (r.le (by decide)) L6.X.F.var (.cons (Ev.itemL (k := 0) (ds := is.map .int) L6.X.F.var Ev.int (by decide) (get_int (i := 0) b0) (by decide)) (.cons (Ev.itemL (k := 1) (ds := is.map .int) L6.X.F.var Ev.int (by decide) (get_int (i := 1) b1) (by decide)) .nil rfl) rfl) (implies_fn g sz11 (pool_ok _ (pi 0 b0)) (pool_ok _ (pi 1 b1))) (by kernel_rfl)) fun v h8 h' L8 x8 rv => fin (Drawn.imp (pi 0 b0) (pi 1 b1)) e0 L8 x8 rv
  have z3 := beq_noI z
  have L9 := L8.up LS.sta x6
  clear z x6
  refine Xs.iff (Et.cmp L9.X.F.var Ev.int Cm.eqI) (fun z h6 x6 => ?_) (fun z h6 x6 => ?_)
  · have z' : (k : Int) = 4 := beq_iff_eq.mp z
    have L6 := L9.up LS.sta x6
    have k4 : k = 4 := Int.ofNat.inj z'
    have len : is.length = 2 := (l2 (by rw [k4]; decide)).trans (by rw [k4]; rfl)
    have e0 := l2i len
    have b0 : 0 < is.length := by rw [len]; decide
    have b1 : 1 < is.length := by rw [len]; decide
    exact drawRet L6 (Lw.meth g L6.X.F L6.ws L6.j (r.le (by decide)) L6.X.F.var (.cons (Ev.itemL (k := 0) (ds := is.map .int) L6.X.F.var Ev.int (by decide) (get_int (i := 0) b0) (by decide)) (.cons (Ev.itemL (k := 1) (ds := is.map .int) L6.X.F.var Ev.int (by decide) (get_int (i := 1) b1) (by decide)) .nil rfl) rfl) (eq_fn g sz11 (pool_ok _ (pi 0 b0)).1 (pool_ok _ (pi 1 b1)).1 ((pool_ok _ (pi 1 b1)).2.trans (pool_ok _ (pi 0 b0)).2.symm)) (by kernel_rfl)) fun v h8 h' L8 x8 rv => fin (Drawn.eq (pi 0 b0) (pi 1 b1)) e0 L8 x8 rv
  have z4 := beq_noI z
  have L10 := L9.up LS.sta x6
  clear z x6
  refine Xs.iff (Et.cmp L10.X.F.var Ev.int Cm.eqI) (fun z h6 x6 => ?_) (fun z h6 x6 => ?_)
  · have z' : (k : Int) = 5 := beq_iff_eq.mp z
    have L6 := L10.up LS.sta x6
    have k5 : k = 5 := Int.ofNat.inj z'
    have len : is.length = 3 := (l2 (by rw [k5]; decide)).trans (by rw [k5]; rfl)
    have e0 := l3i len
    have b0 : 0 < is.length := by rw [len]; decide
    have b1 : 1 < is.length := by rw [len]; decide
    have b2 : 2 < is.length := by rw [len]; decide
    exact drawRet L6 (Lw.meth g L6.X.F L6.ws L6.j (r.le (by decide)) L6.X.F.var (.cons (Ev.itemL (k := 0) (ds := is.map .int) L6.X.F.var Ev.int (by decide) (get_int (i := 0) b0) (by decide)) (.cons (Ev.itemL (k := 1) (ds := is.map .int) L6.X.F.var Ev.int (by decide) (get_int (i := 1) b1) (by decide)) (.cons (Ev.itemL (k := 2) (ds := is.map .int) L6.X.F.var Ev.int (by decide) (get_int (i := 2) b2) (by decide)) .nil rfl) rfl) rfl) (ite_fn g sz11 (pool_ok _ (pi 0 b0)) (pool_ok _ (pi 1 b1)) (pool_ok _ (pi 2 b2))) (by kernel_rfl)) fun v h8 h' L8 x8 rv => fin (Drawn.ite (pi 0 b0) (pi 1 b1) (pi 2 b2)) e0 L8 x8 rv
  have z5 := beq_noI z
  have L11 := L10.up LS.sta x6
  clear z x6
  have k6 : k = 6 := by
    have : ∀ k : Nat, k < 7 → ((k : Int) ≠ 0 ∧ (k : Int) ≠ 1 ∧ (k : Int) ≠ 2 ∧ (k : Int) ≠ 3 ∧ (k : Int) ≠ 4 ∧ (k : Int) ≠ 5) → k = 6 := by decide
    exact this k hk ⟨z0, z1, z2, z3, z4, z5⟩
  have len : is.length = 2 := (l2 (by rw [k6]; decide)).trans (by rw [k6]; rfl)
  have e0 := l2i len
  have b0 : 0 < is.length := by rw [len]; decide
  have b1 : 1 < is.length := by rw [len]; decide
  have L6 := L11
  refine Xs.exprM ((Lw.meth g L6.X.F L6.ws L6.j (r.le (by decide)) L6.X.F.var (.cons (Ev.itemL (k := 0) (ds := is.map .int) L6.X.F.var Ev.int (by decide) (get_int (i := 0) b0) (by decide)) (.cons (Ev.itemL (k := 1) (ds := is.map .int) L6.X.F.var Ev.int (by decide) (get_int (i := 1) b1) (by decide)) .nil rfl) rfl) (eq_fn g sz11 (pool_ok _ (pi 0 b0)).1 (pool_ok _ (pi 1 b1)).1 ((pool_ok _ (pi 1 b1)).2.trans (pool_ok _ (pi 0 b0)).2.symm)) (by kernel_rfl)).imp fun v h7 p => L6.eff p.1 p.2.1) fun h7 L7 => ?_
  have ok : ∀ t ∈ [is[0]!, is[1]!], (st11.eqd is[0]! is[1]!).is t ∧ (st11.eqd is[0]! is[1]!).sort t = 0 := fun t ht => by
    have q : st11.is t ∧ st11.sort t = 0 := by
      rcases List.mem_cons.mp ht with rfl | ht
      · exact pool_ok _ (pi 0 b0)
      · rw [List.mem_singleton.mp ht]; exact pool_ok _ (pi 1 b1)
    obtain ⟨a, _, _, b⟩ := BS.eqd_get (st := st11) (x := is[0]!) (y := is[1]!) q.1
    exact ⟨a, b.trans q.2⟩
  have szd : (st11.eqd is[0]! is[1]!).ts.length < 1000 := Nat.lt_of_le_of_lt BS.eqd_len (by decide)
  exact drawRet L7 (Lw.meth g L7.X.F L7.ws L7.j (r.le (by decide)) L7.X.F.var (.cons (Ev.cast (L7.X.F.var (d := .list (is.map .int))) (congrArg (fun l : List Int => D.list (l.map .int)) e0)) .nil rfl) (distinct_of_fn (l := [is[0]!, is[1]!]) g szd ok (by simp) (by simp)) (by kernel_rfl)) fun v h8 h' L8 x8 rv => fin (Drawn.dist (pi 0 b0) (pi 1 b1)) e0 L8 x8 rv
end
noncomputable def EsI (w : World) : List (Int × Value) → List Int → Prop
  | [], [] => True
  | e :: r, k :: s => (e.1 = (intKind prg w).hash k ∧ ∃ t, e.2 = .int k t) ∧ EsI w r s
  | _, _ => False
theorem EsI.len : ∀ {es : List (Int × Value)} {l : List Int}, EsI w es l → es.length = l.length
  | [], [], _ => rfl
  | [], _ :: _, x => nomatch x
  | _ :: _, [], x => nomatch x
  | _ :: _, _ :: _, ⟨_, x⟩ => by simp [x.len]
theorem EsI.elems : ∀ {es : List (Int × Value)} {l : List Int}, EsI w es l → ElemsOf (intKind prg w) es
  | [], [], _ => fun e he => nomatch he
  | [], _ :: _, x => nomatch x
  | _ :: _, [], x => nomatch x
  | e :: r, k :: s, ⟨⟨a, t, b⟩, x⟩ => fun e' he => by
    rcases List.mem_cons.mp he with rfl | he
    · exact ⟨⟨k, by rw [b]; exact isInt_of, a⟩, by rw [b]; rfl⟩
    · exact x.elems e' he
theorem EsI.find {k : Int} : ∀ {es : List (Int × Value)} {l : List Int}, EsI w es l → (es.findIdx? fun e => (intKind prg w).is k e.2).isSome = decide (k ∈ l)
  | [], [], _ => rfl
  | [], _ :: _, x => nomatch x
  | _ :: _, [], x => nomatch x
  | e :: r, k' :: s, ⟨⟨a, t, b⟩, x⟩ => by
    have ih := x.find (k := k)
    have e1 : (intKind prg w).is k e.2 = decide (k' = k) := by
      rw [b]
      show (k' == k) = decide (k' = k)
      rw [Bool.eq_iff_iff]; simp
    rw [List.findIdx?_cons, e1]
    by_cases q : k' = k
    · subst q; simp
    · have q' : ¬ k = k' := fun z => q z.symm
      simp [q, q', ih]
theorem EsI.ins {e : Int × Value} {k : Int} (he : e.1 = (intKind prg w).hash k ∧ ∃ t, e.2 = .int k t) : ∀ {es : List (Int × Value)} {l : List Int} (p : Nat), EsI w es l → EsI w (es.take p ++ e :: es.drop p) (l.take p ++ k :: l.drop p)
  | [], [], p, _ => by simpa using ⟨he, trivial⟩
  | [], _ :: _, _, x => nomatch x
  | _ :: _, [], _, x => nomatch x
  | e' :: r, k' :: s, 0, x => ⟨he, x⟩
  | e' :: r, k' :: s, p + 1, ⟨a, x⟩ => ⟨a, EsI.ins he p x⟩
noncomputable def SetAt (w : World) (h : Heap) (a : Addr) (l : List Int) (t : SetTable) : Prop := ∃ o es ep, h.get? a = some o ∧ o.ExactSet ∧ o.data = .set es ep t ∧ EsI w es.toList l ∧ t.fits l.length = true
noncomputable def addT (st : List Int × SetTable) (k : Int) : Option (List Int × SetTable) :=
  if k ∈ st.1 then some st else
  match st.2.freeSlot (hashInt k) with
  | some (slot, false) =>
    if ((st.2.put slot).1.fits (st.1.length + 1) && !(st.2.put slot).1.tooFull) = true then some (st.1.take (st.2.put slot).2 ++ k :: st.1.drop (st.2.put slot).2, (st.2.put slot).1) else none
  | _ => none
theorem addT_len {st st2 : List Int × SetTable} {k : Int} (e : addT st k = some st2) : st2.1.length ≤ st.1.length + 1 := by
  unfold addT at e
  split at e
  · cases e; omega
  · split at e
    · split at e
      · cases e
        simp
        omega
      · cases e
    · cases e
theorem setAdd_at {sa : Addr} {l l' : List Int} {t t' : SetTable} {k : Int} {tok : Nat} {s : Shared} {Q : Bool → Shared → Prop} {E : Value → Shared → Prop} (S : SetAt w s.heap sa l t) (sz : l.length < 1000) (e : addT (l, t) k = some (l', t'))
    (h : ∀ h' b, Heap.SameBut sa s.heap h' → SetAt w h' sa l' t' → Q b { s with heap := h', toks := s.toks + 1 }) : wpAny (model prg w) A (setAdd sa (.int k tok)) Q E s := by
  obtain ⟨o, es, ep, ho, hex, hd, hes, hf⟩ := S
  have hsz : es.size = l.length := by rw [← hes.len]; simp
  have hf' : t.fits es.size = true := by rw [hsz]; exact hf
  have hel := hes.elems
  have hb : es.size + 1 < scanBound := by unfold scanBound; omega
  unfold setAdd
  refine wpAny_holding ?_
  refine wpAny_bind ((intKind prg w).pyHash (k := k) isInt_of ?_)
  unfold setAddHashed setAddHashedIn
  refine wpAny_holding (wpAny_bind (wpAny_setState_of (s := { s with toks := s.toks + 1 }) ho hd hf' ?_))
  dsimp only
  rw [byScan_of (knd := intKind prg w) rfl (by omega) hel]
  simp -iota only [↓reduceIte]
  unfold setAddByScan
  refine wpAny_bind ?_
  refine wpAny_bind (wpAny_rule ?_)
  refine wpAny_bind (wpAny_setScan_of (knd := intKind prg w) isInt_of ho hd hf' hel ?_)
  have fnd := hes.find (k := k)
  cases hr : List.findIdx? (fun e => (intKind prg w).is k e.2) es.toList with
  | some j =>
    rw [hr] at fnd
    have km : k ∈ l := by simpa using fnd
    unfold addT at e
    rw [if_pos km] at e
    cases e
    dsimp only
    exact wpAny_pure (wpAny_pure (h s.heap false (Heap.SameBut.refl _ _) ⟨o, es, ep, ho, hex, hd, hes, hf⟩))
  | none =>
    rw [hr] at fnd
    have km : k ∉ l := by simpa using fnd
    unfold addT at e
    rw [if_neg km] at e
    dsimp only at e ⊢
    split at e
    · rename_i slot hfs
      split at e
      · rename_i ok
        cases e
        obtain ⟨ok1, ok2⟩ := Bool.and_eq_true_iff.mp ok
        have hi : (SetTable.insertAt es (t.put slot).2 ((intKind prg w).hash k, Value.int k tok)).size = l.length + 1 := by
          rw [← Array.length_toList, SetTable.toList_insertAt]
          have : (es.toList.take (t.put slot).2 ++ ((intKind prg w).hash k, Value.int k tok) :: es.toList.drop (t.put slot).2).length = es.toList.length + 1 := by
            simp; omega
          rw [this, hes.len]
        have hln : layNew t es ((intKind prg w).hash k) (.int k tok) = (SetTable.insertAt es (t.put slot).2 ((intKind prg w).hash k, Value.int k tok), (t.put slot).1, false, false) := by
          unfold layNew
          rw [show t.freeSlot ((intKind prg w).hash k) = some (slot, false) from hfs]
          dsimp only
          have o1 : (t.put slot).1.orStandIn (SetTable.insertAt es (t.put slot).2 ((intKind prg w).hash k, Value.int k tok)).size = (t.put slot).1 := by
            unfold SetTable.orStandIn; rw [hi, if_pos ok1]
          rw [o1, hi, ok1]; rfl
        rw [hln]
        dsimp only
        refine wpAny_bind (wpAny_pure ?_)
        have nf : (t.put slot).1.tooFull = false := by simpa using ok2
        have at' : (s.heap.update sa (Obj.putSet (SetTable.insertAt es (t.put slot).2 ((intKind prg w).hash k, Value.int k tok)) (t.put slot).1)).get? sa = some { o with data := .set (SetTable.insertAt es (t.put slot).2 ((intKind prg w).hash k, Value.int k tok)) (ep + 1) (t.put slot).1 } := by
          have := Heap.get?_update_self (Obj.putSet (SetTable.insertAt es (t.put slot).2 ((intKind prg w).hash k, Value.int k tok)) (t.put slot).1) ho (by rw [putSet_of _ _ hd]; rfl)
          rw [putSet_of _ _ hd] at this; exact this
        have fin : Q true { s with heap := s.heap.update sa (Obj.putSet (SetTable.insertAt es (t.put slot).2 ((intKind prg w).hash k, Value.int k tok)) (t.put slot).1), toks := s.toks + 1 } := by
          refine h _ true (Heap.SameBut.update s.heap sa _) ⟨_, _, _, at', hex, rfl, ?_, ?_⟩
          · rw [SetTable.toList_insertAt]; exact EsI.ins ⟨rfl, tok, rfl⟩ _ hes
          · have : (l.take (t.put slot).2 ++ k :: l.drop (t.put slot).2).length = l.length + 1 := by simp; omega
            rw [this]; exact ok1
        split
        · refine wpAny_bind ?_
          rw [hashByValue_scannable 8 rfl]
          refine wpAny_pure ?_
          rw [show plainKind (Value.int k tok) = true from rfl]
          simp -iota only [if_true]
          refine wpAny_bind (wpAny_storeSet_of (s := { s with toks := s.toks + 1 }) ho hd ?_ (by rw [hi, sizeLine_eq]; omega))
          rw [nf]
          simp only [Bool.and_false, Bool.false_eq_true, if_false]
          refine wpAny_pure (wpAny_pure ?_)
          exact fin
        · refine wpAny_bind (wpAny_pure ?_)
          simp -iota only [if_true]
          refine wpAny_bind (wpAny_storeSet_of (s := { s with toks := s.toks + 1 }) ho hd ?_ (by rw [hi, sizeLine_eq]; omega))
          rw [nf]
          simp only [Bool.and_false, Bool.false_eq_true, if_false]
          refine wpAny_pure (wpAny_pure ?_)
          exact fin
      · cases e
    · cases e
noncomputable def foldT (st : List Int × SetTable) : List Int → Option (List Int × SetTable)
  | [] => some st
  | k :: r => match addT st k with
    | some st' => foldT st' r
    | none => none
theorem code_set_loop {R : Result → Shared → Prop} {I : Addr} {fp wr : List Addr} {G : Array GenState → Array GenState → Prop} {n : Nat} {P : Nat → Value → Prop} {St : Nat → Shared → Prop} (W : WalksS prg w A.in1 I fp wr G n P St) (sa : Addr) (hSf : sa ∉ fp)
    (val : Nat → Int) (hval : ∀ i v, P i v → ∃ t, v = .int (val i) t) {l2 : List Int} {t2 : SetTable} :
    ∀ (r : List Int) (i : Nat) (s : Shared) (l : List Int) (t : SetTable), i + r.length = n → (∀ j x, r[j]? = some x → val (i + j) = x) → St i s → SetAt w s.heap sa l t → l.length + r.length < 1000 → foldT (l, t) r = some (l2, t2) →
      (∀ s', Moved (sa :: wr) G s s' → SetAt w s'.heap sa l2 t2 → R (.ok (.ret .none)) s') → codeAny (model prg w) A (.builtin "set.update.loop" ⟨[.ref sa, .ref I], []⟩) R s := by
  have hSw : sa ∉ wr := fun h => hSf (W.sub _ h)
  have hsub : ∀ b ∈ wr, b ∈ sa :: wr := fun b hb => List.mem_cons_of_mem _ hb
  intro r
  induction r with
  | nil =>
    intro i s l t hi _ hst hS _ hf hR
    have hin : i = n := by simpa using hi
    subst hin
    cases hf
    refine codeAny_builtin F.entry_set_update_loop ?_
    rw [Around.under_plainId F.plain_set_update_loop _]
    show wpAny _ A.in1 (pyNext (.ref I) >>= _) _ _ s
    refine wpAny_bind (W.done s _ _ hst fun s' hm => ?_)
    show wpAny _ A.in1 (ret Value.none) _ _ s'
    exact wpAny_pure (hR s' (hm.mono hsub) (by
      obtain ⟨o, es, ep, ho, rest⟩ := hS
      exact ⟨o, es, ep, hm.heap sa _ hSw ho, rest⟩))
  | cons x r ih =>
    intro i s l t hi hv hst hS hz hf hR
    have hlt : i < n := by simp at hi; omega
    refine codeAny_builtin F.entry_set_update_loop ?_
    rw [Around.under_plainId F.plain_set_update_loop _]
    show wpAny _ A.in1 (pyNext (.ref I) >>= _) _ _ s
    refine wpAny_bind (W.item i s _ _ hlt hst fun v s' hP hst' hm => ?_)
    obtain ⟨tk, rfl⟩ := hval i v hP
    have e0 : val i = x := hv 0 x rfl
    rw [e0]
    have hS' : SetAt w s'.heap sa l t := by
      obtain ⟨o, es, ep, ho, rest⟩ := hS
      exact ⟨o, es, ep, hm.heap sa _ hSw ho, rest⟩
    unfold foldT at hf
    cases ha : addT (l, t) x with
    | none => rw [ha] at hf; cases hf
    | some st' =>
      rw [ha] at hf
      have la := addT_len ha
      show wpAny _ A.in1 (holding [Value.int x tk] (setAdd sa (.int x tk)) >>= _) _ _ s'
      refine wpAny_bind (wpAny_holding ?_)
      refine setAdd_at hS' (by simp at hz; omega) ha fun h' b hsb hS2 => ?_
      have hst2 : St (i + 1) { s' with heap := h', toks := s'.toks + 1 } := W.frame _ s' _ _ hst' (Nat.le_succ _) fun b hb o e => by
        rw [hsb.2 b (fun h : b = sa => hSf (by rw [← h]; exact hb))]; exact e
      refine wpAny_pure ⟨plainId_quiet F.plain_set_update_loop _, ih (i + 1) _ st'.1 st'.2 (by simp at hi; omega) (fun j y hy => ?_) hst2 hS2 (by simp at hz la; omega) hf fun s'' hm'' hS'' => ?_⟩
      · have := hv (j + 1) y (by simpa using hy)
        rwa [show i + (j + 1) = i + 1 + j by omega] at this
      · refine hR s'' (Moved.trans W.gtrans ((hm.mono hsub).then_heap (Nat.le_succ _) fun b o hb e => ?_) hm'') hS''
        rw [hsb.2 b (fun h : b = sa => hb (by rw [h]; exact List.mem_cons_self))]; exact e
noncomputable def ledOf (w : World) : Bool := !w.params.followText "set-order"
theorem code_set_led (a : Value) {s : Shared} {E : Value → Shared → Prop} {Q₁ : Value → Shared → Prop}
    (h : Q₁ (.ref s.heap.objs.size) { s with heap := s.heap.push { cls := .type "set", dict := none, data := .set #[] 0 (.fresh 0 0 (ledOf w)) } }) :
    codeAny (model prg w) A (.call (.builtin "set.__new__") ⟨[.type "set", a], []⟩) (wants Q₁ E) s := by
  refine codeAny_of_tree ?_
  show wpAny _ A.in1 (do checkBuiltinCall "set.__new__" ⟨[.type "set", a], []⟩; again (.builtin "set.__new__" ⟨[.type "set", a], []⟩)) _ _ s
  refine wpAny_bind (wpAny_of_eq (PySem.F.newCall_set_1 a) (wpAny_pure ⟨plainId_quiet PySem.F.plain_set_new _, codeAny_builtin PySem.F.entry_set_new ?_⟩))
  rw [Around.under_plainId PySem.F.plain_set_new _]
  unfold Builtin.«set.__new__» Builtin.Frozenset.newClass
  have hsub := sub_set_self
  obtain ⟨hp, g, d, tk, os⟩ := s
  dsimp only
  wp_walk
  refine wpAny_askSetting (wpAny_pure ?_)
  dsimp only
  simp only [newObj]
  refine wpAny_bind (wpAny_alloc (wpAny_pure ?_))
  exact wpAny_pure h
theorem set_of_ints {l : Addr} {items : Array Value} {ns l' : List Int} {t' : SetTable} {s : Shared} {Q : Value → Shared → Prop} {E : Value → Shared → Prop} (hh : A.handled = none) (hl : s.heap.IsList l items) (hi : IntsAre items.toList ns) (hz : ns.length < 1000)
    (hf : foldT ([], .fresh 0 0 (ledOf w)) ns = some (l', t')) (k : ∀ h' tk, SetAt w h' s.heap.objs.size l' t' → Ext s.heap h' → Q (.ref s.heap.objs.size) { s with heap := h', toks := tk }) : wpAny (model prg w) A (PySem.call (.type "set") [.ref l]) Q E s := by
  obtain ⟨c, tl, hmro⟩ := PySem.F.called_set.mro
  have hmade := PySem.F.called_set.made
  have hsub := PySem.F.called_set.sub
  refine wpAny_call (codeAny_of_tree ?_)
  show wpAny _ _ (callAny (.type "set") _) _ _ _
  refine wpAny_pure ⟨Code.quiet_builtin _ (by decide +kernel), codeAny_builtin PySem.F.entry_type_call ?_⟩
  rw [Around.under_plain (weight_type_call_type "set" [.ref l] []) rfl]
  have h1 := PySem.F.called_set.notType
  have h2 := PySem.F.called_set.canCreate
  have hct := PySem.F.typeCall_set_1 (.ref l)
  repeat (any_goals (first | assumption | wp_step))
  refine codeAny_mono (code_set_led (.ref l) (E := E) (Q₁ := fun obj s₁ => obj = .ref s.heap.objs.size ∧ s₁ = { s with heap := s.heap.push { cls := .type "set", dict := none, data := .set #[] 0 (.fresh 0 0 (ledOf w)) } }) ⟨rfl, rfl⟩) fun r s₁ hr => ?_
  rcases r with er | fl
  · exact hr
  have fin : ∃ obj, fl = .ret obj ∧ (obj = .ref s.heap.objs.size ∧ s₁ = { s with heap := s.heap.push { cls := .type "set", dict := none, data := .set #[] 0 (.fresh 0 0 (ledOf w)) } }) := by
    cases fl with
    | ret obj => exact ⟨obj, rfl, hr⟩
    | _ => exact hr.elim
  clear hr
  obtain ⟨_, rfl, rfl, rfl⟩ := fin
  have hS : (s.heap.push { cls := .type "set", dict := none, data := .set #[] 0 (.fresh 0 0 (ledOf w)) }).get? s.heap.objs.size = some { cls := .type "set", dict := none, data := .set #[] 0 (.fresh 0 0 (ledOf w)) } := Heap.get?_push_size _ rfl
  have hT : Shared.TypeIs { s with heap := s.heap.push { cls := .type "set", dict := none, data := .set #[] 0 (.fresh 0 0 (ledOf w)) } } (.ref s.heap.objs.size) "set" := ⟨_, hS, rfl⟩
  have hli := PySem.F.called_set.init.lookup
  have hbi := PySem.F.called_set.init.bind (.ref s.heap.objs.size)
  repeat (any_goals (first | assumption | wp_step))
  refine codeAny_mono (codeAny_call_builtin (R := wants (fun r s₂ => r = .none ∧ ∃ h' tk, s₂ = { s with heap := h', toks := tk } ∧ SetAt w h' s.heap.objs.size l' t' ∧ Ext s.heap h') E) PySem.F.called_set.init.plain PySem.F.entry_set_init (check_set_init_1 hT ?_)) fun r₂ s₂ hr₂ => ?_
  · obtain ⟨ol, hol, hcl, nl, hdl⟩ := id hl
    obtain ⟨ocls, odict, odata, oslots⟩ := ol
    simp only at hcl hdl
    subst hcl; subst hdl
    have hol' : (s.heap.push { cls := .type "set", dict := none, data := .set #[] 0 (.fresh 0 0 (ledOf w)) }).get? l = some { cls := .type "list", dict := odict, data := .seq items nl, slots := oslots } := Heap.get?_push_of_some _ hol
    have hsls := PySem.F.sub_list_set
    have hslf := PySem.F.sub_list_frozenset
    have hne : (Value.type "list" == Value.type "dict") = false := by decide
    have hl1 : (s.heap.push { cls := .type "set", dict := none, data := .set #[] 0 (.fresh 0 0 (ledOf w)) }).IsList l items := ⟨_, hol', rfl, nl, rfl⟩
    unfold Builtin.«set.__init__» noKeywords Builtin.Frozenset.updateFrom
    generalize hPI : pyIter = PI
    wp_walk
    subst hPI
    refine wpAny_pyIter_list hl1 ?_
    refine wpAny_bind (wpAny_runValue ?_)
    have hlS : l < s.heap.objs.size := Heap.lt_size hol
    have hh3 : A.in1.in1.in1.handled = none := by simp [hh]
    have hneI : l ≠ (s.heap.push { cls := .type "set", dict := none, data := .set #[] 0 (.fresh 0 0 (ledOf w)) }).objs.size := by
      rw [Heap.size_push]; exact Nat.ne_of_lt (Nat.lt_succ_of_lt hlS)
    have hSf : s.heap.objs.size ∉ [(s.heap.push { cls := .type "set", dict := none, data := .set #[] 0 (.fresh 0 0 (ledOf w)) }).objs.size, l] := by
      rw [Heap.size_push]; simp only [List.mem_cons, List.not_mem_nil, or_false, not_or]
      exact ⟨Nat.ne_of_lt (Nat.lt_succ_self _), Nat.ne_of_gt hlS⟩
    have hval : ∀ (i : Nat) (v : Value), items[i]? = some v → ∃ t, v = .int ((fun i => ns.getD i 0) i) t := fun i v hv =>
      PyProof.Rows.IntsAre.int_at hi i v (by rw [Array.getElem?_toList]; exact hv)
    have hlen : items.size = ns.length := by have := hi.length; simpa using this
    refine code_set_loop ((Walks.list hh3 _ l hneI items).toS) s.heap.objs.size hSf (fun i => ns.getD i 0) hval ns 0 _ [] _ (by rw [hlen]; omega) (fun j x e => by rw [Nat.zero_add]; show ns.getD j 0 = x; rw [List.getD_eq_getElem?_getD, e]; rfl) ⟨⟨_, Heap.get?_push_size _ rfl, rfl, rfl⟩, (hl1.push _)⟩ ?_ (by simpa using hz) hf (fun s' hm hS' => ?_)
    · have hget : ((s.heap.push { cls := .type "set", dict := none, data := .set #[] 0 (.fresh 0 0 (ledOf w)) }).push { cls := .type "list_iterator", data := .fields #[.ref l, .int 0 0] }).get? s.heap.objs.size
          = some { cls := .type "set", dict := none, data := .set #[] 0 (.fresh 0 0 (ledOf w)) } := Heap.get?_push_of_some _ hS
      exact ⟨_, #[], 0, hget, ⟨rfl, rfl, rfl⟩, rfl, trivial, rfl⟩
    · obtain ⟨h', g', d', tk', os'⟩ := s'
      have eg : g' = s.gens := hm.gens
      have ed : d' = s.drawn := hm.drawn
      have eo : os' = s.os := hm.os
      subst eg; subst ed; subst eo
      show wpAny _ _ _ _ _ _
      refine wpAny_pure ?_
      show wpAny _ _ (ret Value.none) _ _ _
      refine wpAny_pure ⟨rfl, h', tk', rfl, hS', fun b o e => ?_⟩
      have hb := Heap.lt_size e
      have hb1 : b ≠ s.heap.objs.size := Nat.ne_of_lt hb
      have hb2 : b ≠ (s.heap.push { cls := .type "set", dict := none, data := .set #[] 0 (.fresh 0 0 (ledOf w)) }).objs.size := by
        rw [Heap.size_push]; exact Nat.ne_of_lt (Nat.lt_succ_of_lt hb)
      exact hm.heap b o (by simp only [List.mem_cons, List.not_mem_nil, or_false, not_or]; exact ⟨hb1, hb2⟩) (Heap.get?_push_of_some _ (Heap.get?_push_of_some _ e))
  · rcases r₂ with er | fl₂
    · exact hr₂
    have fin : ∃ r, fl₂ = .ret r ∧ r = .none ∧ ∃ h' tk, s₂ = { s with heap := h', toks := tk } ∧ SetAt w h' s.heap.objs.size l' t' ∧ Ext s.heap h' := by
      cases fl₂ with
      | ret r => exact ⟨r, rfl, hr₂⟩
      | _ => exact hr₂.elim
    clear hr₂
    obtain ⟨_, rfl, rfl, h', tk, rfl, hS', hk'⟩ := fin
    repeat (any_goals (first | assumption | wp_step))
    exact k _ _ hS' hk'
theorem pick_go {α : Type} (next : Nat → Nat) : ∀ (n k : Nat) (left : List α) (out : Array α), left.length = n → (pickOrder.go next n k left out).toList.Perm (out.toList ++ left)
  | 0, k, left, out, e => by
    have : left = [] := List.length_eq_zero_iff.mp e
    subst this
    unfold pickOrder.go; simp
  | n + 1, k, left, out, e => by
    unfold pickOrder.go
    have hl : next k % left.length < left.length := Nat.mod_lt _ (by omega)
    rw [List.getElem?_eq_getElem hl]
    dsimp only
    refine (pick_go next n (k + 1) (left.eraseIdx (next k % left.length)) (out.push left[next k % left.length]) (by rw [List.length_eraseIdx_of_lt hl]; omega)).trans ?_
    rw [Array.toList_push, List.append_assoc]
    refine List.Perm.append_left _ ?_
    rw [List.eraseIdx_eq_take_drop_succ]
    have e1 : left = left.take (next k % left.length) ++ left[next k % left.length] :: left.drop (next k % left.length + 1) := by
      rw [← List.drop_eq_getElem_cons hl, List.take_append_drop]
    generalize next k % left.length = i at hl e1 ⊢
    conv => rhs; rw [e1]
    show (left[i] :: (left.take i ++ left.drop (i + 1))).Perm _
    exact List.perm_middle.symm
theorem pick_perm {α : Type} (next : Nat → Nat) (xs : Array α) : (pickOrder next xs).toList.Perm xs.toList := by
  unfold pickOrder
  simpa using pick_go next xs.size 0 xs.toList #[] (by simp)
theorem slot_si_next : Slot "set_iterator" "__next__" "set_iterator.__next__" :=
  .of (owner := "set_iterator") (n := "__next__") (by rw [typeLookup_type, builtinLookup_eq_fast]; kernel_rfl) (by decide +kernel) (by decide +kernel) (by decide +kernel)
    (by first | exact .inl (by decide +kernel) | exact .inr (by decide +kernel)) (by rw [isSubtype_type]; kernel_rfl)
theorem entry_si_next : entryFor table "set_iterator.__next__" = some Builtin.«set_iterator.__next__» := entryFor_of_tree (by kernel_rfl)
theorem args_si_next (a : Value) : argsOk "set_iterator.__next__" ⟨[a], []⟩ := by unfold argsOk; kernel_rfl
theorem entry_set_iter : entryFor table "set.__iter__" = some Builtin.«frozenset.__iter__» :=
  entryFor_alias (id' := "frozenset.__iter__") (by kernel_rfl) rfl (by decide +kernel) (by kernel_rfl)
theorem addT_keep {st st2 : List Int × SetTable} {k : Int} (e : addT st k = some st2) : st2.2.plain = st.2.plain ∧ st2.2.led = st.2.led := by
  unfold addT at e
  split at e
  · cases e; exact ⟨rfl, rfl⟩
  · split at e
    · split at e
      · cases e; exact ⟨rfl, rfl⟩
      · cases e
    · cases e
theorem foldT_keep : ∀ {r : List Int} {st st2 : List Int × SetTable}, foldT st r = some st2 → st2.2.plain = st.2.plain ∧ st2.2.led = st.2.led
  | [], st, st2, e => by cases e; exact ⟨rfl, rfl⟩
  | k :: r, st, st2, e => by
    unfold foldT at e
    cases q : addT st k with
    | none => rw [q] at e; cases e
    | some s' =>
      rw [q] at e
      have a := foldT_keep e
      have b := addT_keep q
      exact ⟨a.1.trans b.1, a.2.trans b.2⟩
noncomputable def SIt (h : Heap) (I sa : Addr) (slot i n ep : Nat) : Prop := ∃ o, h.get? I = some o ∧ o.cls = .type "set_iterator" ∧ o.data = .fields #[.int slot 0, .int i 0, .ref sa, .int n 0, .int ep 0]
theorem SIt.typeIs {I sa : Addr} {slot i n ep : Nat} {s : Shared} (x : SIt s.heap I sa slot i n ep) : s.TypeIs (.ref I) "set_iterator" := let ⟨o, ho, hc, _⟩ := x; ⟨o, ho, hc⟩
noncomputable def slotAt (t : SetTable) : Nat → Nat
  | 0 => 0
  | i + 1 => t.place.getD i 0 + 1
noncomputable def walkOk (n : Nat) (t : SetTable) : Bool := (List.range (n + 1)).all fun i => SetTable.below t.place (slotAt t i) == i
noncomputable def ordOf (w : World) (sa ep : Addr) (es : Array (Int × Value)) : Array (Int × Value) := if ledOf w = true then es else pickOrder (w.params.setOrder sa ep) es
noncomputable def slotOf (w : World) (t : SetTable) (i : Nat) : Nat := if ledOf w = true then slotAt t i else 0
theorem si_item {I sa : Addr} {i n ep : Nat} {o : Obj} {es : Array (Int × Value)} {t : SetTable} {e : Int × Value} {s : Shared} {Q : Option Value → Shared → Prop} {E : Value → Shared → Prop} (it : SIt s.heap I sa (slotOf w t i) i n ep) (ho : s.heap.get? sa = some o) (hd : o.data = .set es ep t) (hf : t.fits es.size = true) (hn : es.size = n)
    (pl : t.plain = true) (ld : t.led = ledOf w) (wk : walkOk n t = true) (hi : (ordOf w sa ep es)[i]? = some e) (hlt : i < n)
    (k : ∀ h', SIt h' I sa (slotOf w t (i + 1)) (i + 1) n ep → Heap.SameBut I s.heap h' → Q (some e.2) { s with heap := h' }) : wpAny (model prg w) A (pyNext (.ref I)) Q E s := by
  obtain ⟨oi, hoi, hci, hdi⟩ := id it
  unfold pyNext
  refine wpAny_bind (wpAny_attempt (wpAny_callSpecial?_slot (name := Str.ofString "__next__") it.typeIs slot_si_next (wpAny_call_entry slot_si_next it.typeIs entry_si_next ?_ (args_si_next _))))
  unfold Builtin.«set_iterator.__next__» slotArgs
  simp -iota only [List.isEmpty_nil, Bool.not_true, Bool.false_eq_true, ↓reduceIte, bind_assoc, List.length_nil, bne_self_eq_false]
  refine wpAny_bind (wpAny_pure ?_)
  refine wpAny_bind (wpAny_fieldsOf hoi hdi ?_)
  dsimp only
  refine wpAny_bind (wpAny_setEntries_of ho hd hf ?_)
  rw [if_neg (by rw [hn]; simp)]
  refine wpAny_bind ?_
  unfold setNext setsByText
  refine wpAny_bind (wpAny_setState_of ho hd hf ?_)
  dsimp only
  refine wpAny_bind (wpAny_bind (wpAny_askSetting (wpAny_pure ?_)))
  dsimp only
  have fin : ∀ {E' : Value → Shared → Prop}, wpAny (model prg w) A.in1 (do setField (.ref I) 0 (rawInt (slotOf w t (i + 1))); setField (.ref I) 1 (rawInt (i + 1)); ret e.2) (fun f s' => ∃ v, f = Fin.done (Flow.ret v) ∧ wpAny (model prg w) A (pure (some v)) Q E s') E' s := by
    intro E'
    refine wpAny_bind (wpAny_setField hoi hdi (by simp) ?_)
    have h1 : (s.heap.update I (Obj.mapFields (·.setIfInBounds 0 (rawInt (slotOf w t (i + 1)))))).get? I = some (Obj.mapFields (·.setIfInBounds 0 (rawInt (slotOf w t (i + 1)))) oi) := Heap.get?_update_self _ hoi (Obj.isFreed_of_fields (Obj.data_mapFields hdi _))
    have d1 : (Obj.mapFields (·.setIfInBounds 0 (rawInt (slotOf w t (i + 1)))) oi).data = .fields #[.int (slotOf w t (i + 1)) 0, .int i 0, .ref sa, .int n 0, .int ep 0] := by rw [Obj.data_mapFields hdi]; simp [rawInt]
    refine wpAny_bind (wpAny_setField h1 d1 (by simp) ?_)
    have h2 : ((s.heap.update I (Obj.mapFields (·.setIfInBounds 0 (rawInt (slotOf w t (i + 1)))))).update I (Obj.mapFields (·.setIfInBounds 1 (rawInt (i + 1))))).get? I = some (Obj.mapFields (·.setIfInBounds 1 (rawInt (i + 1))) (Obj.mapFields (·.setIfInBounds 0 (rawInt (slotOf w t (i + 1)))) oi)) := Heap.get?_update_self _ h1 (Obj.isFreed_of_fields (Obj.data_mapFields d1 _))
    exact wpAny_pure ⟨_, rfl, wpAny_pure (k _ ⟨_, h2, (Obj.cls_mapFields ..).trans ((Obj.cls_mapFields ..).trans hci), by rw [Obj.data_mapFields d1]; simp [rawInt]⟩ ((Heap.SameBut.update ..).trans (Heap.SameBut.update ..)))⟩
  have fs : t.place.size = n := by
    have := (Bool.and_eq_true_iff.mp hf).1
    rw [← hn]; exact beq_iff_eq.mp this
  by_cases lw : ledOf w = true
  · have bt : ¬ (w.params.followText "set-order" = true) := by unfold ledOf at lw; simpa using lw
    rw [if_neg (show ¬ ((model prg w).w.params.followText "set-order" = true) from bt)]
    rw [if_neg (by show ¬ ((!t.plain && decide (es.size > 1)) = true); rw [pl]; simp)]
    refine wpAny_bind ?_
    show wpAny _ _ (if (!t.led && !es.isEmpty) = true then _ else pure PUnit.unit) _ _ _
    rw [if_neg (by rw [ld, lw]; simp)]
    refine wpAny_pure (wpAny_pure ?_)
    have so : slotOf w t i = slotAt t i := if_pos lw
    have bl : SetTable.below t.place (slotAt t i) = i := beq_iff_eq.mp (List.all_eq_true.mp wk i (List.mem_range.mpr (by omega)))
    have he : es[i]? = some e := by have := hi; unfold ordOf at this; rwa [if_pos lw] at this
    have hp : t.place[i]? = some (t.place.getD i 0) := by
      have : i < t.place.size := by rw [fs]; exact hlt
      simp [this]
    rw [Int.toNat_natCast, so, bl, he, hp]
    dsimp only
    have : t.place.getD i 0 + 1 = slotOf w t (i + 1) := by unfold slotOf; rw [if_pos lw]; rfl
    rw [this]
    exact fin
  · have bt : w.params.followText "set-order" = true := by unfold ledOf at lw; simpa using lw
    rw [if_pos (show (model prg w).w.params.followText "set-order" = true from bt)]
    rw [if_neg (by simp)]
    refine wpAny_bind ?_
    unfold setWalk setsByText
    refine wpAny_bind (wpAny_setState_of ho hd hf ?_)
    dsimp only
    refine wpAny_bind (wpAny_bind (wpAny_askSetting (wpAny_pure ?_)))
    rw [if_pos (show (model prg w).w.params.followText "set-order" = true from bt)]
    refine wpAny_bind (wpAny_askSetting (wpAny_pure (wpAny_pure ?_)))
    have he : (pickOrder ((model prg w).w.params.setOrder sa ep) es)[i]? = some e := by have := hi; unfold ordOf at this; rw [if_neg lw] at this; exact this
    simp only [Int.toNat_natCast]
    have s0 : slotOf w t i = slotOf w t (i + 1) := by unfold slotOf; rw [if_neg lw, if_neg lw]
    rw [he, s0]
    exact fin
theorem si_done {I sa : Addr} {n ep : Nat} {o : Obj} {es : Array (Int × Value)} {t : SetTable} {s : Shared} {Q : Option Value → Shared → Prop} {E : Value → Shared → Prop} (hh : A.handled = none) (it : SIt s.heap I sa (slotOf w t n) n n ep) (ho : s.heap.get? sa = some o) (hd : o.data = .set es ep t) (hf : t.fits es.size = true) (hn : es.size = n)
    (pl : t.plain = true) (ld : t.led = ledOf w) (wk : walkOk n t = true)
    (k : ∀ h', Heap.ExtBut I s.heap h' → Q none { s with heap := h' }) : wpAny (model prg w) A (pyNext (.ref I)) Q E s := by
  obtain ⟨oi, hoi, hci, hdi⟩ := id it
  unfold pyNext
  refine wpAny_bind (wpAny_attempt (wpAny_callSpecial?_slot (name := Str.ofString "__next__") it.typeIs slot_si_next (wpAny_call_entry slot_si_next it.typeIs entry_si_next ?_ (args_si_next _))))
  unfold Builtin.«set_iterator.__next__» slotArgs
  simp -iota only [List.isEmpty_nil, Bool.not_true, Bool.false_eq_true, ↓reduceIte, List.length_nil, bne_self_eq_false]
  refine wpAny_bind (wpAny_pure ?_)
  refine wpAny_bind (wpAny_fieldsOf hoi hdi ?_)
  dsimp only
  refine wpAny_bind (wpAny_setEntries_of ho hd hf ?_)
  rw [if_neg (by rw [hn]; simp)]
  refine wpAny_bind ?_
  unfold setNext setsByText
  refine wpAny_bind (wpAny_setState_of ho hd hf ?_)
  dsimp only
  refine wpAny_bind (wpAny_bind (wpAny_askSetting (wpAny_pure ?_)))
  dsimp only
  have fin : wpAny (model prg w) A.in1 (do setField (Value.ref I) 2 Value.none; let e ← newExc (Value.type "StopIteration") []; raiseNew (α := Fin) e) (fun f s' => ∃ v, f = Fin.done (Flow.ret v) ∧ wpAny (model prg w) A (pure (some v)) Q E s')
      (fun e s' => wpAny (model prg w) A (do let b ← isInstance e (Value.type "StopIteration"); if b = true then pure none else throw e) Q E s') s := by
    refine wpAny_bind (wpAny_setField hoi hdi (by simp) ?_)
    refine wpAny_bind ?_
    simp only [newExc, newTuple]
    refine wpAny_bind (wpAny_newObj_type ?_ (by size_fits))
    refine wpAny_bind (m := firstArgMember _ _) (wpAny_of_eq (a := Value.none) (by first | rfl | (simp only [firstArgMember]; rfl)) ?_)
    refine wpAny_newObj_type ?_ (by size_fits)
    simp only [raiseNew]
    refine wpAny_bind (wpAny_handled ?_)
    rw [show A.in1.handled = none from hh]
    refine wpAny_bind (wpAny_pure (wpAny_throw ?_))
    refine wpAny_bind (wpAny_isInstance (T := "StopIteration") (b := true) ⟨_, Heap.get?_push_size _ rfl, rfl⟩ isSubtype_stop ?_)
    rw [if_pos rfl]
    refine wpAny_pure (k _ fun b o' hb e => Heap.get?_push_of_some _ (Heap.get?_push_of_some _ ?_))
    rw [(Heap.SameBut.update s.heap I _).2 b hb]; exact e
  have fs : t.place.size = n := by
    have := (Bool.and_eq_true_iff.mp hf).1
    rw [← hn]; exact beq_iff_eq.mp this
  by_cases lw : ledOf w = true
  · have bt : ¬ (w.params.followText "set-order" = true) := by unfold ledOf at lw; simpa using lw
    rw [if_neg (show ¬ ((model prg w).w.params.followText "set-order" = true) from bt)]
    rw [if_neg (by show ¬ ((!t.plain && decide (es.size > 1)) = true); rw [pl]; simp)]
    refine wpAny_bind ?_
    show wpAny _ _ (if (!t.led && !es.isEmpty) = true then _ else pure PUnit.unit) _ _ _
    rw [if_neg (by rw [ld, lw]; simp)]
    refine wpAny_pure (wpAny_pure ?_)
    have so : slotOf w t n = slotAt t n := if_pos lw
    have bl : SetTable.below t.place (slotAt t n) = n := beq_iff_eq.mp (List.all_eq_true.mp wk n (List.mem_range.mpr (by omega)))
    have he : es[n]? = none := by simp [hn]
    rw [Int.toNat_natCast, so, bl, he]
    exact fin
  · have bt : w.params.followText "set-order" = true := by unfold ledOf at lw; simpa using lw
    rw [if_pos (show (model prg w).w.params.followText "set-order" = true from bt)]
    rw [if_neg (by simp)]
    refine wpAny_bind ?_
    unfold setWalk setsByText
    refine wpAny_bind (wpAny_setState_of ho hd hf ?_)
    dsimp only
    refine wpAny_bind (wpAny_bind (wpAny_askSetting (wpAny_pure ?_)))
    rw [if_pos (show (model prg w).w.params.followText "set-order" = true from bt)]
    refine wpAny_bind (wpAny_askSetting (wpAny_pure (wpAny_pure ?_)))
    have he : (pickOrder ((model prg w).w.params.setOrder sa ep) es)[n]? = none := by
      have := (pick_perm ((model prg w).w.params.setOrder sa ep) es).length_eq
      simp only [Array.length_toList] at this
      simp [this, hn]
    simp only [Int.toNat_natCast]
    rw [he]
    exact fin
theorem slot_si_iter : Slot "set_iterator" "__iter__" "set_iterator.__iter__" :=
  .of (owner := "set_iterator") (n := "__iter__") (by rw [typeLookup_type, builtinLookup_eq_fast]; kernel_rfl) (by decide +kernel) (by decide +kernel) (by decide +kernel)
    (by first | exact .inl (by decide +kernel) | exact .inr (by decide +kernel)) (by rw [isSubtype_type]; kernel_rfl)
theorem entry_si_iter : entryFor table "set_iterator.__iter__" = some Builtin.«dict_keyiterator.__iter__» :=
  entryFor_alias (id' := "dict_keyiterator.__iter__") (by kernel_rfl) rfl (by decide +kernel) (by kernel_rfl)
theorem args_si_iter (a : Value) : argsOk "set_iterator.__iter__" ⟨[a], []⟩ := by unfold argsOk; kernel_rfl
theorem nolen_set : typeLookup (.type "set") "__len__" = pure (some (.builtin "set.__len__")) := by rw [typeLookup_type, builtinLookup_eq_fast]; kernel_rfl
theorem SIt.at {h h' : Heap} {I sa : Addr} {slot i n ep : Nat} (x : SIt h I sa slot i n ep) (q : ∀ o, h.get? I = some o → h'.get? I = some o) : SIt h' I sa slot i n ep := let ⟨o, e, r⟩ := x; ⟨o, q o e, r⟩
theorem si_walks {I sa : Addr} {n ep : Nat} {es : Array (Int × Value)} {t : SetTable} (hh : A.handled = none) (ne : I ≠ sa) (hf : t.fits es.size = true) (hn : es.size = n) (pl : t.plain = true) (ld : t.led = ledOf w) (wk : walkOk n t = true) :
    Walks prg w A I [I, sa] [I] n (fun i v => ∃ e, (ordOf w sa ep es)[i]? = some e ∧ v = e.2) (fun i h => SIt h I sa (slotOf w t i) i n ep ∧ ∃ o, h.get? sa = some o ∧ o.data = .set es ep t) where
  sub := fun b hb => by rw [List.mem_singleton.mp hb]; exact .head _
  frame := fun i h h' ⟨x, o, ho, hd⟩ k => ⟨x.at fun o q => k I (.head _) o q, o, k sa (.tail _ (.head _)) o ho, hd⟩
  item := fun i s Q E hi ⟨x, o, ho, hd⟩ k => by
    have hl : (ordOf w sa ep es).size = n := by
      unfold ordOf
      split
      · exact hn
      · have := (pick_perm (w.params.setOrder sa ep) es).length_eq
        simp only [Array.length_toList] at this
        rw [this, hn]
    obtain ⟨e, he⟩ : ∃ e, (ordOf w sa ep es)[i]? = some e := ⟨(ordOf w sa ep es)[i]'(by omega), by simp [hl, hi]⟩
    refine si_item x ho hd hf hn pl ld wk he hi fun h' x' sb => ?_
    exact k _ h' s.toks ⟨e, he, rfl⟩ ⟨x', o, (sb.2 sa (Ne.symm ne)).trans ho, hd⟩ fun b o' nb eb => (sb.2 b (fun z => nb (by rw [z]; exact .head _))).trans eb
  done := fun s Q E ⟨x, o, ho, hd⟩ k => si_done hh x ho hd hf hn pl ld wk fun h' eb => k h' s.toks fun b o' nb e => eb b o' (fun z => nb (by rw [z]; exact .head _)) e
  self := fun i s Q E ⟨x, _⟩ k => by
    refine wpAny_pyIter_slot x.typeIs slot_si_iter (wpAny_call_entry slot_si_iter x.typeIs entry_si_iter ?_ (args_si_iter _))
    show wpAny _ _ (ret (.ref I)) _ _ s
    exact wpAny_pure ⟨_, rfl, "set_iterator", _, x.typeIs, slot_si_next.lookup, k⟩
theorem iter_set {sa : Addr} {ep : Nat} {o : Obj} {es : Array (Int × Value)} {t : SetTable} {s : Shared} {Q : Value → Shared → Prop} {E : Value → Shared → Prop} (ho : s.heap.get? sa = some o) (hex : o.ExactSet) (hd : o.data = .set es ep t) (hf : t.fits es.size = true) (pl : t.plain = true)
    (k : ∀ h', SIt h' s.heap.objs.size sa 0 0 es.size ep → Ext s.heap h' → h'.objs.size = s.heap.objs.size + 1 → Q (.ref s.heap.objs.size) { s with heap := h' }) : wpAny (model prg w) A (pyIter (.ref sa)) Q E s := by
  have hT : s.TypeIs (.ref sa) "set" := ⟨o, ho, hex.1⟩
  refine wpAny_pyIter_slot hT PySem.F.slot_set_iter (wpAny_call_entry PySem.F.slot_set_iter hT entry_set_iter ?_ (PySem.F.args_set_iter_1 _))
  unfold Builtin.«frozenset.__iter__» Builtin.Frozenset.slot0 slotArgs
  simp -iota only [List.isEmpty_nil, Bool.not_true, Bool.false_eq_true, ↓reduceIte, bind_assoc, List.length_nil, bne_self_eq_false]
  unfold Builtin.Frozenset.addrOf Builtin.Frozenset.sizeOf
  refine wpAny_bind (wpAny_pure ?_)
  try dsimp only
  refine wpAny_bind (wpAny_pure ?_)
  refine wpAny_bind (wpAny_bind (wpAny_setEntries_of ho hd hf (wpAny_pure ?_)))
  unfold setDrawn setsByText
  refine wpAny_bind (wpAny_bind (wpAny_setState_of ho hd hf ?_))
  dsimp only
  refine wpAny_bind (wpAny_bind (wpAny_askSetting (wpAny_pure (wpAny_pure ?_))))
  rw [if_neg (by
    show ¬ ((!((model prg w).w.params.followText "set-order") && (!t.plain && decide (es.size > 1))) = true)
    rw [pl]; simp)]
  refine wpAny_bind (wpAny_pure ?_)
  refine wpAny_bind (wpAny_setEpoch_of ho hd hf ?_)
  refine wpAny_bind (wpAny_newObj_type (wpAny_pure ⟨_, rfl, "set_iterator", _, ⟨_, Heap.get?_push_size _ rfl, rfl⟩, slot_si_next.lookup, k _ ⟨_, Heap.get?_push_size _ rfl, rfl, rfl⟩ (Ext.push _ _) (by rw [Heap.size_push])⟩))
theorem collect_set {sa : Addr} {ep : Nat} {o : Obj} {es : Array (Int × Value)} {t : SetTable} {s : Shared} {Q : List Value → Shared → Prop} {E : Value → Shared → Prop} (hh : A.handled = none) (ho : s.heap.get? sa = some o) (hex : o.ExactSet) (hd : o.data = .set es ep t) (hf : t.fits es.size = true) (pl : t.plain = true) (ld : t.led = ledOf w) (wk : walkOk es.size t = true)
    (hz : es.size ≤ 1000) (k : ∀ h' tk, Ext s.heap h' → Q ((ordOf w sa ep es).toList.map (·.2)) { s with heap := h', toks := tk }) : wpAny (model prg w) A (collect (.ref sa)) Q E s := by
  have hT : s.TypeIs (.ref sa) "set" := ⟨o, ho, hex.1⟩
  have hsa : sa < s.heap.objs.size := Heap.lt_size ho
  unfold collect
  refine wpAny_bind (wpAny_runValue (codeAny_builtin PySem.F.entry_proto_collect ?_))
  rw [Around.under_plainId PySem.F.plain_proto_collect _]
  show wpAny _ A.in1 (newList [] >>= fun l => again (.builtin "list.__iadd__" ⟨[l, .ref sa], []⟩)) _ _ s
  refine wpAny_bind (wpAny_newObj_type ?_)
  refine wpAny_pure ⟨plainId_quiet PySem.F.plain_list_iadd _, codeAny_builtin PySem.F.entry_list_iadd ?_⟩
  rw [Around.under_plainId PySem.F.plain_list_iadd _]
  have hS₁ : (s.heap.push { cls := .type "list", data := .seq ([] : List Value).toArray }).get? s.heap.objs.size = some { cls := .type "list", data := .seq ([] : List Value).toArray } := Heap.get?_push_size _ rfl
  have ho₁ : (s.heap.push { cls := .type "list", data := .seq ([] : List Value).toArray }).get? sa = some o := Heap.get?_push_of_some _ ho
  have h1 : Builtin.List.listSameRef (.ref s.heap.objs.size) (.ref sa) = false := by show (s.heap.objs.size == sa) = false; exact beq_eq_false_iff_ne.mpr (Nat.ne_of_gt hsa)
  have hT₁ : Shared.TypeIs { s with heap := s.heap.push { cls := .type "list", data := .seq ([] : List Value).toArray } } (.ref sa) "set" := ⟨o, ho₁, hex.1⟩
  show wpAny _ A.in1 (Builtin.List.listExtendWith (.ref s.heap.objs.size) (.ref sa) (.ref s.heap.objs.size)) _ _ _
  unfold Builtin.List.listExtendWith
  refine wpAny_bind (wpAny_typeOf hT₁ ?_)
  rw [if_neg (by rw [h1]; decide)]
  refine wpAny_bind (iter_set (s := { s with heap := s.heap.push { cls := .type "list", data := .seq ([] : List Value).toArray } }) ho₁ hex hd hf pl fun h2 si x2 sz2 => ?_)
  have e1 : Ext s.heap h2 := (Ext.push _ _).trans x2
  have ho₂ : h2.get? sa = some o := e1 _ _ ho
  have hT₂ : Shared.TypeIs { s with heap := h2 } (.ref sa) "set" := ⟨o, ho₂, hex.1⟩
  refine wpAny_bind (wpAny_holding ?_)
  unfold Builtin.List.listLengthHint
  refine wpAny_bind (wpAny_specialOf hT₂ nolen_set ?_)
  dsimp only
  rw [show splitId "set.__len__" = some ("set", "__len__") from by kernel_rfl]
  dsimp only
  refine wpAny_bind (wpAny_isInstance (b := true) hT₂ sub_set_self ?_)
  simp -iota only [Bool.not_true, Bool.false_eq_true, if_false]
  rw [if_pos (by decide +kernel)]
  refine wpAny_bind (wpAny_typeOf hT₂ ?_)
  dsimp only
  refine wpAny_pure ?_
  rw [if_pos (by decide +kernel)]
  refine wpAny_bind (wpAny_rule ?_)
  have hacc : h2.get? s.heap.objs.size = some { cls := .type "list", data := .seq ([] : List Value).toArray } := x2 _ _ hS₁
  unfold Builtin.List.listTouch
  refine wpAny_bind (wpAny_bind (listUpdate_at (s := { s with heap := h2 }) hacc rfl ?_ (by decide) (by decide)))
  have hacc3 := PyProof.Rows.get?_update_seq (c := "list") hacc (fun x => x.push .none)
  refine listUpdate_at (s := { s with heap := h2.update s.heap.objs.size (Obj.mapSeq (·.push .none)) }) hacc3 rfl ?_ (by simp [sizeLine_eq]) (by simp)
  have hacc4 := PyProof.Rows.get?_update_seq (c := "list") hacc3 (fun x => x.pop)
  have sb : Heap.SameBut s.heap.objs.size h2 ((h2.update s.heap.objs.size (Obj.mapSeq (·.push .none))).update s.heap.objs.size (Obj.mapSeq (·.pop))) := (Heap.SameBut.update ..).trans (Heap.SameBut.update ..)
  generalize (h2.update s.heap.objs.size (Obj.mapSeq (·.push .none))).update s.heap.objs.size (Obj.mapSeq (·.pop)) = h4 at hacc4 sb ⊢
  have sI : ({ s with heap := s.heap.push { cls := .type "list", data := .seq ([] : List Value).toArray } } : Shared).heap.objs.size = s.heap.objs.size + 1 := Heap.size_push ..
  rw [sI] at si ⊢
  have si4 : SIt h4 (s.heap.objs.size + 1) sa 0 0 es.size ep := si.at fun o q => (sb.2 _ (Nat.succ_ne_self _)).trans q
  have so4 : h4.get? sa = some o := (sb.2 _ (Nat.ne_of_lt hsa)).trans ho₂
  have s0 : slotOf w t 0 = 0 := by unfold slotOf; split <;> rfl
  refine wpAny_pure ⟨plainId_quiet PySem.F.plain_extend_loop _, codeAny_extend_loopS (si_walks (A := A.in1) (w := w) (I := s.heap.objs.size + 1) (sa := sa) (ep := ep) (es := es) (t := t) hh (Nat.ne_of_gt (Nat.lt_succ_of_lt hsa)) hf rfl pl ld wk).toS (Nat.le_trans hz (by decide)) s.heap.objs.size (fun z => (List.mem_cons.mp z).elim (fun z => Nat.succ_ne_self _ z.symm) fun z => Nat.ne_of_gt hsa (List.mem_singleton.mp z)) _ es.size 0 { s with heap := h4 } _ _ rfl (Nat.zero_le _) ⟨by rw [s0]; exact si4, o, so4, hd⟩ hacc4 (ItemsOf.nil _) fun s' acc' c' hm hS' ha => ?_⟩
  show wpAny _ A (load s.heap.objs.size >>= _) _ _ s'
  refine wpAny_bind (wpAny_load hS' ?_)
  obtain ⟨h', g', d', tk', os'⟩ := s'
  have eg : g' = s.gens := hm.gens
  have ed : d' = s.drawn := hm.drawn
  have eo : os' = s.os := hm.os
  subst eg; subst ed; subst eo
  have hl : (ordOf w sa ep es).size = es.size := by
    unfold ordOf
    split
    · rfl
    · have := (pick_perm (w.params.setOrder sa ep) es).length_eq
      simpa only [Array.length_toList] using this
  have el : acc'.toList = (ordOf w sa ep es).toList.map (·.2) := by
    refine List.ext_getElem? fun j => ?_
    rw [List.getElem?_map, Array.getElem?_toList, Array.getElem?_toList]
    by_cases hj : j < acc'.size
    · obtain ⟨e, he, hv⟩ := ha.2 j acc'[j] (by simp [hj])
      rw [he, Array.getElem?_eq_getElem hj, hv]; rfl
    · rw [Array.getElem?_eq_none (by omega), Array.getElem?_eq_none (by rw [hl, ← ha.1]; omega)]; rfl
  show wpAny _ _ (pure acc'.toList) _ _ _
  rw [el]
  refine wpAny_pure (k h' tk' fun b ob e => hm.heap b ob (fun z => ?_) ?_)
  · have hb := Heap.lt_size e
    rcases List.mem_cons.mp z with z | z
    · exact Nat.lt_irrefl _ (z ▸ hb)
    · rw [List.mem_singleton.mp z] at hb; exact Nat.lt_irrefl _ (Nat.lt_of_succ_lt hb)
  · exact (sb.2 b (Nat.ne_of_lt (Heap.lt_size e))).trans (e1 b ob e)
theorem nodup_fold : ∀ {r : List Int} {st st2 : List Int × SetTable}, foldT st r = some st2 → st.1.Nodup → st2.1.Nodup ∧ ∀ x, x ∈ st2.1 ↔ x ∈ st.1 ∨ x ∈ r
  | [], st, st2, e, n => by cases e; exact ⟨n, fun x => by simp⟩
  | k :: r, st, st2, e, n => by
    unfold foldT at e
    cases q : addT st k with
    | none => rw [q] at e; cases e
    | some s' =>
      rw [q] at e
      have hs : s'.1.Nodup ∧ ∀ x, x ∈ s'.1 ↔ x ∈ st.1 ∨ x = k := by
        unfold addT at q
        split at q
        · rename_i km
          cases q
          exact ⟨n, fun x => ⟨.inl, fun z => z.elim id fun z => z ▸ km⟩⟩
        · rename_i km
          split at q
          · split at q
            · cases q
              have pm : ∀ p : Nat, (st.1.take p ++ k :: st.1.drop p).Perm (k :: st.1) := fun p => by
                have := @List.perm_middle _ k (st.1.take p) (st.1.drop p)
                rwa [List.take_append_drop] at this
              exact ⟨(pm _).nodup_iff.mpr (List.nodup_cons.mpr ⟨km, n⟩), fun x => by
                rw [(pm _).mem_iff, List.mem_cons]; exact Or.comm⟩
            · cases q
          · cases q
      obtain ⟨a, b⟩ := nodup_fold e hs.1
      refine ⟨a, fun x => ?_⟩
      rw [b x, hs.2 x, List.mem_cons, or_assoc]
noncomputable def setFine (ns : List Int) : Bool := [true, false].all fun led => match foldT ([], .fresh 0 0 led) ns with
  | some (l, t) => walkOk l.length t
  | none => false
noncomputable def ddp : List Int → List Int
  | [] => []
  | x :: r => if x ∈ ddp r then ddp r else x :: ddp r
theorem ddp_mem {x : Int} : ∀ {l : List Int}, x ∈ ddp l ↔ x ∈ l
  | [] => Iff.rfl
  | y :: r => by
    unfold ddp
    split
    · rename_i h
      rw [ddp_mem, List.mem_cons]
      exact ⟨.inr, fun z => z.elim (fun z => z ▸ ddp_mem.mp h) id⟩
    · rw [List.mem_cons, List.mem_cons, ddp_mem]
theorem ddp_nodup : ∀ {l : List Int}, (ddp l).Nodup
  | [] => List.nodup_nil
  | y :: r => by
    unfold ddp
    split
    · exact ddp_nodup
    · rename_i h; exact List.nodup_cons.mpr ⟨h, ddp_nodup⟩
theorem perm_of_mem {a b : List Int} (na : a.Nodup) (nb : b.Nodup) (h : ∀ x, x ∈ a ↔ x ∈ b) : a.Perm b := (List.perm_ext_iff_of_nodup na nb).mpr h
theorem EsI.ints : ∀ {es : List (Int × Value)} {l : List Int}, EsI w es l → IntsAre (es.map (·.2)) l
  | [], [], _ => .nil
  | [], _ :: _, x => nomatch x
  | _ :: _, [], x => nomatch x
  | e :: r, k :: s, ⟨⟨a, t, b⟩, x⟩ => by rw [List.map_cons, b]; exact .cons k t x.ints
theorem IntsAre.permOf {a b : List Value} (p : a.Perm b) : ∀ {l : List Int}, IntsAre b l → ∃ l', IntsAre a l' ∧ l'.Perm l := by
  induction p with
  | nil => intro l i; exact ⟨l, i, .rfl⟩
  | cons x _ ih =>
    intro l i
    cases i with
    | cons k t i =>
      obtain ⟨l', a, b⟩ := ih i
      exact ⟨k :: l', .cons k t a, b.cons k⟩
  | swap x y r =>
    intro l i
    cases i with
    | cons k t i =>
      cases i with
      | cons k' t' i => exact ⟨k' :: k :: _, .cons k' t' (.cons k t i), List.Perm.swap _ _ _⟩
  | trans _ _ ih1 ih2 =>
    intro l i
    obtain ⟨l', a, b⟩ := ih2 i
    obtain ⟨l'', c, d⟩ := ih1 a
    exact ⟨l'', c, d.trans b⟩
theorem sorted_set {sa : Addr} {l : List Int} {t : SetTable} {s : Shared} {Q : Value → Shared → Prop} {E : Value → Shared → Prop} (hh : A.handled = none) (S : SetAt w s.heap sa l t) (pl : t.plain = true) (ld : t.led = ledOf w) (wk : walkOk l.length t = true) (hz : l.length < 64)
    (k : ∀ h' tk r out, Ext s.heap h' → s.heap.get? r = none → h'.IsList r out → IntsAre out.toList (srt l) → Q (.ref r) { s with heap := h', toks := tk }) : wpAny (model prg w) A (PySem.call (.builtin "sorted") [.ref sa]) Q E s := by
  obtain ⟨o, es, ep, ho, hex, hd, hes, hf⟩ := S
  have hsz : es.size = l.length := by rw [← hes.len]; simp
  have hf' : t.fits es.size = true := by rw [hsz]; exact hf
  have hp : ((ordOf w sa ep es).toList.map (·.2)).Perm (es.toList.map (·.2)) := by
    unfold ordOf
    split
    · exact .rfl
    · exact (pick_perm _ _).map _
  obtain ⟨l', hi, pl'⟩ := IntsAre.permOf hp hes.ints
  refine Calls.call_function_entry kind_sorted plain_sorted entry_sorted (args_sorted1 _) ?_
  unfold Builtin.«sorted»
  refine wpAny_bind (m := checkCount "sorted" 1 1 _) (wpAny_pure ?_)
  refine wpAny_bind (collect_set (A := A.in1) hh ho hex hd hf' pl ld (by rw [hsz]; exact wk) (by omega) fun h1 tk1 x1 => ?_)
  have hlen : ((ordOf w sa ep es).toList.map (·.2)).length = l.length := by rw [hp.length_eq, List.length_map, hes.len]
  generalize (ordOf w sa ep es).toList.map (·.2) = vs at hi hlen
  refine wpAny_bind (wpAny_newList ?_ (by rw [hlen, sizeLine_eq]; omega))
  have hoL : (h1.push (seqObj "list" vs.toArray 0)).get? h1.objs.size = some (seqObj "list" vs.toArray 0) := Heap.get?_push_size _ rfl
  refine wpAny_bind (wpAny_holding (wpAny_call_entry slot_list_sort ⟨_, hoL, rfl⟩ entry_list_sort (list_sort_tree (s := { s with heap := h1.push (seqObj "list" vs.toArray 0), toks := tk1 }) hoL hi (by omega) fun out ns' a1 a2 a3 => ⟨_, rfl, ?_⟩) (args_list_sort _)))
  refine wpAny_pure ⟨_, rfl, ?_⟩
  obtain ⟨ep', he⟩ := sortedHeap_at (vs := vs) (out := out) (n := 0) hoL
  have x2 : Ext h1 (sortedHeap (h1.push (seqObj "list" vs.toArray 0)) h1.objs.size vs out) := fun b ob e => by
    have hb := Heap.lt_size e
    rw [sortedHeap_old (Nat.ne_of_lt hb) (by rw [size_push']; exact Nat.lt_succ_of_lt hb)]
    exact Heap.get?_push_of_some _ e
  refine k _ _ _ out (x1.trans x2) (x1.gone (get_new _)) ⟨_, he, rfl, _, rfl⟩ ?_
  rw [← srt_unique (a2.trans pl') a3]; exact a1
theorem srt_congr {a b : List Int} (p : a.Perm b) : srt a = srt b := by
  refine srt_unique ((List.mergeSort_perm _ _).trans p) ?_
  have := List.pairwise_mergeSort (le := fun a b : Int => decide (a ≤ b)) (fun a b c => by simp; omega) (fun a b => by simp; omega) a
  exact this.imp fun z => by simpa using z
theorem Ev.sortedSet {e : Expr} {np1 np2 p1 p2 : Pos} {ns : List Int} (g : Gd w mg mb h) (hd : Dm H h) (hh : A.handled = none) (m : Ev w A H env h e (.list (ns.map .int))) (hz : ns.length < 64) (ok : setFine ns = true)
    (q1 : nsIn (KF w.params) mainGlobals (S "sorted") = some none := by kernel_rfl) (hb1 : bootBuiltins (S "sorted") = some (.builtin "sorted") := by kernel_rfl) (q2 : nsIn (KF w.params) mainGlobals (S "set") = some none := by kernel_rfl) (hb2 : bootBuiltins (S "set") = some (.type "set") := by kernel_rfl)
    (hg : env.globals = mainGlobals := by rfl) (hbb : env.builtins = builtinsNs := by rfl) (hk : env.scope.kind = .function := by rfl) (hl1 : env.kindOf (S "sorted") = some .globalImplicit := by rfl) (hl2 : env.kindOf (S "set") = some .globalImplicit := by rfl)
    (hst1 : starEach [.Call (.Name (S "set") np2) [e] [] p2] env = (false, eval (.Call (.Name (S "set") np2) [e] [] p2) env) :: starEach [] env := by rfl) (hst2 : starEach [e] env = (false, eval e env) :: starEach [] env := by rfl)
    (hs1 : eval (.Call (.Name (S "sorted") np1) [.Call (.Name (S "set") np2) [e] [] p2] [] p1) env = (do let f ← eval (.Name (S "sorted") np1) env; callWith p1 f [] (backTo p1 (starEach [.Call (.Name (S "set") np2) [e] [] p2] env)) (backToKw p1 (keywordEach [] env))) := by rfl)
    (hs2 : eval (.Call (.Name (S "set") np2) [e] [] p2) env = (do let f ← eval (.Name (S "set") np2) env; callWith p2 f [] (backTo p2 (starEach [e] env)) (backToKw p2 (keywordEach [] env))) := by rfl) :
    Ev w A H env h (.Call (.Name (S "sorted") np1) [.Call (.Name (S "set") np2) [e] [] p2] [] p1) (.list ((srt (ddp ns)).map .int)) := fun s Q E x k => by
  obtain ⟨l', t', hf, wk⟩ : ∃ l' t', foldT ([], .fresh 0 0 (ledOf w)) ns = some (l', t') ∧ walkOk l'.length t' = true := by
    have hq : (match foldT ([], .fresh 0 0 (ledOf w)) ns with | some (l, t) => walkOk l.length t | none => false) = true := by
      refine List.all_eq_true.mp ok (ledOf w) ?_
      cases ledOf w <;> simp
    cases q : foldT ([], .fresh 0 0 (ledOf w)) ns with
    | none => rw [q] at hq; cases hq
    | some st => rw [q] at hq; exact ⟨st.1, st.2, rfl, hq⟩
  have kp := foldT_keep hf
  obtain ⟨nd, mem⟩ := nodup_fold hf List.nodup_nil
  have pm : l'.Perm (ddp ns) := perm_of_mem nd ddp_nodup fun y => by rw [mem y, ddp_mem]; simp
  have lz : l'.length < 64 := by
    have h1 : ∀ l : List Int, (ddp l).length ≤ l.length := fun l => by
      induction l with
      | nil => exact Nat.le_refl _
      | cons y r ih => unfold ddp; split <;> simp <;> omega
    rw [pm.length_eq]; have := h1 ns; omega
  refine Call_ ((nmB g q1 hb1 (by decide) hg hbb hk hl1 (by decide)) np1 s _ E x fun u h1 tk1 x1 r => ?_) hs1
  subst r
  refine Calls.callWith_builtin (by rw [hst1]; rfl) ?_
  rw [hst1]
  refine evalArgs_plain (spliced_cons ?_)
  refine Call_ ((nmT g q2 hb2 (by decide) hg hbb hk hl2 (by decide)) np2 { s with heap := h1, toks := tk1 } _ E (x.trans x1) fun u h2 tk2 x2 r => ?_) hs2
  subst r
  refine PyProof.Rows.callWith_type (by rw [hst2]; rfl) ?_
  rw [hst2]
  refine evalArgs_plain (spliced_cons (m _ _ E (x.trans (x1.trans x2)) fun v h3 tk3 x3 rv => spliced_nil ?_))
  obtain ⟨a, vs, rfl, na, il, ra⟩ := rv
  have len := ra.length
  refine set_of_ints (s := { s with heap := h3, toks := tk3 }) hh il (by simpa using ra.ints) (by omega) hf fun h4 tk4 S4 x4 => ?_
  refine spliced_nil ?_
  refine sorted_set (s := { s with heap := h4, toks := tk4 }) hh S4 kp.1 kp.2 wk lz fun h5 tk5 r out x5 nr il5 i5 => ?_
  have xe : Ext s.heap h4 := x1.trans (x2.trans (x3.trans x4))
  refine k _ h5 tk5 (xe.trans x5) ⟨r, out.toList, rfl, fun z => ?_, by simpa using il5, ?_⟩
  · exact (hd.ext (x.trans xe)) r z nr
  · rw [← srt_congr pm]; exact RdAll.of_ints i5
section
variable {elt t1 it1 t2 it2 : Expr} {scope : Scope} {pos : Pos}
noncomputable abbrev two2 (elt t1 it1 t2 it2 : Expr) (scope : Scope) (pos : Pos) : Expr := .ListComp elt [⟨t1, it1, [], 0⟩, ⟨t2, it2, [], 0⟩] scope pos
theorem turn_in (it acc : Value) (cenv : Env) : compTurn (two2 elt t1 it1 t2 it2 scope pos) 1 it acc cenv = (standAt it2.pos >>= fun _ => pyNext it >>= fun r => match r with
      | none => pure (.done .next)
      | some v => letOwnedTupleGo t2 it v >>= fun _ => assign t2 cenv v >>= fun _ =>
        (eval elt cenv >>= fun x => PySem.call (.builtin "list.append") [acc, x] >>= fun _ => pure ()) >>= fun _ =>
          again (.compLoop (two2 elt t1 it1 t2 it2 scope pos) 1 it acc cenv)) := by rfl
theorem turn_out (it acc : Value) (cenv : Env) : compTurn (two2 elt t1 it1 t2 it2 scope pos) 0 it acc cenv = (standAt it1.pos >>= fun _ => pyNext it >>= fun r => match r with
      | none => pure (.done .next)
      | some v => letOwnedTupleGo t1 it v >>= fun _ => assign t1 cenv v >>= fun _ =>
        (eval it2 cenv >>= fun x => standAt it2.pos >>= fun _ => foldedSetIterable it2 cenv x >>= fun x => holding [x] (pyIter x) >>= fun i => runOwn (.compStart (two2 elt t1 it1 t2 it2 scope pos) 1 i acc cenv) cenv >>= fun _ => again (.compLoop (two2 elt t1 it1 t2 it2 scope pos) 0 it acc cenv))) := by rfl
theorem start_in {i acc : Value} {cenv : Env} {R : Result → Shared → Prop} {s : Shared} (h0 : codeAny (model prg w) A (.compLoop (two2 elt t1 it1 t2 it2 scope pos) 1 i acc cenv) R s)
    (h : wpAny (model prg w) A (pyIter i) (fun i' s' => codeAny (model prg w) A (.compLoop (two2 elt t1 it1 t2 it2 scope pos) 1 i' acc cenv) R s') (notedBy (model prg w) A cenv fun x s' => R (.error x) s') s) :
    codeAny (model prg w) A (.compStart (two2 elt t1 it1 t2 it2 scope pos) 1 i acc cenv) R s := by
  refine codeAny_of_tree ?_
  show wpAny _ _ ((compStart (two2 elt t1 it1 t2 it2 scope pos) 1 i acc cenv).onRaise (fun x => do noteFrame x cenv; standAt theWindowsPlace)) _ _ s
  refine wpAny_notedAt ?_
  unfold compStart
  show wpAny _ _ (ask >>= _) _ _ s
  refine wpAny_bind (wpAny_askSetting (wpAny_ite ?_))
  split
  · first
      | exact wpAny_bind (wpAny_pure (wpAny_pure (And.intro rfl h0)))
      | exact wpAny_pure (And.intro rfl h0)
  · first
      | exact wpAny_bind (wpAny_rule (wpAny_bind (wpAny_standAt (wpAny_bind (wpAny_mono h (fun it' s' h' => wpAny_pure (And.intro rfl h')) fun _ _ x => x)))))
      | (refine wpAny_bind (wpAny_rule ?_); show wpAny _ _ (standAt it2.pos >>= _) _ _ s; exact wpAny_bind (wpAny_standAt (wpAny_bind (wpAny_mono h (fun it' s' h' => wpAny_pure (And.intro rfl h')) fun _ _ x => x))))
end
theorem Bd.upd {m : Str → Option Value} {x : Str} {v : Value} : ∀ {xs : List Str} {ds : List D}, Bd H m h xs ds → x ∉ xs → Bd H (upd m x v) h xs ds
  | [], [], b, _ => b
  | [], _ :: _, b, _ => nomatch b
  | _ :: _, [], b, _ => nomatch b
  | y :: xs, d :: ds, ⟨⟨u, e, r⟩, b⟩, n => ⟨⟨u, by rw [List.mem_cons, not_or] at n; simp [Mine.upd, Ne.symm n.1, e], r⟩, Bd.upd b fun z => n (.tail _ z)⟩
theorem Bd.to {m : Str → Option Value} {H' : List Addr} {h' : Heap} (t : To H h H' h') : ∀ {xs : List Str} {ds : List D}, Bd H m h xs ds → Bd H' m h' xs ds
  | [], [], b => b
  | [], _ :: _, b => nomatch b
  | _ :: _, [], b => nomatch b
  | y :: xs, d :: ds, ⟨⟨u, e, r⟩, b⟩ => ⟨⟨u, e, r.to t⟩, Bd.to t b⟩
theorem Bd.snoc {m : Str → Option Value} {x : Str} {d : D} (q : ∃ v, m x = some v ∧ Rd H h d v) : ∀ {xs : List Str} {ds : List D}, Bd H m h xs ds → Bd H m h (xs ++ [x]) (ds ++ [d])
  | [], [], b => ⟨q, trivial⟩
  | [], _ :: _, b => nomatch b
  | _ :: _, [], b => nomatch b
  | y :: xs, d :: ds, ⟨a, b⟩ => ⟨a, Bd.snoc q b⟩
section
variable {elt t1 it1 it2 : Expr} {scope : Scope} {pos p2 : Pos} {x2 : Str}
theorem loop_in {I2 Dx : Addr} {fp : List Addr} {P : Nat → Value → Prop} {St : Nat → Heap → Prop} {cenv : Env} {m : Str → Option Value} {es ds0 : List D} {f : D → D} {H' : List Addr} {R : Result → Shared → Prop} {s : Shared} {xs1 : List Str} {ds1 : List D} {ys0 : Array Value}
    (W : Walks prg w A I2 fp [I2] es.length P St) (hst : St 0 s.heap) (hC : cenv.locals ∈ H') (hD : Dx ∈ H') (hI : I2 ∈ H') (hDC : Dx ≠ cenv.locals) (hDf : Dx ∉ fp) (hCf : cenv.locals ∉ fp)
    (hacc : s.heap.PlainList Dx ys0) (hy0 : RdAll H' s.heap ds0 ys0.toList) (hns : s.heap.Ns cenv.locals m) (hbd : Bd H' m s.heap xs1 ds1) (hx2 : x2 ∉ xs1) (hk : cenv.scope.kind = .function) (hl : cenv.kindOf x2 = some .local) (hdm : Dm H' s.heap)
    (hrd : ∀ i v, P i v → ∃ d, es[i]? = some d ∧ Rd H' s.heap d v) (hIO : ∀ i h, St i h → IsItr h I2)
    (helt : ∀ e ∈ es, ∀ h₂ m₂, ExtO [cenv.locals, Dx, I2] s.heap h₂ → Dm H' h₂ → h₂.Ns cenv.locals m₂ → Bd H' m₂ h₂ (xs1 ++ [x2]) (ds1 ++ [e]) → Ev w A H' cenv h₂ elt (f e))
    (hsz : ds0.length + es.length ≤ 100000)
    (hR : ∀ h' tk m' ys, ExtO [cenv.locals, Dx, I2] s.heap h' → h'.Ns cenv.locals m' → h'.PlainList Dx ys → RdAll H' h' (ds0 ++ es.map f) ys.toList → R (.ok .next) { s with heap := h', toks := tk }) :
    codeAny (model prg w) A (.compLoop (two2 elt t1 it1 (.Name x2 p2) it2 scope pos) 1 (.ref I2) (.ref Dx) cenv) R s := by
  have hCI : cenv.locals ≠ I2 := fun z => hCf (W.sub _ (by rw [z]; exact .head _))
  have hDI : Dx ≠ I2 := fun z => hDf (W.sub _ (by rw [z]; exact .head _))
  have toH : ∀ {a b : Heap}, ExtO [cenv.locals, Dx, I2] a b → To H' a H' b := fun q b o n e => ⟨n, q b o (fun z => by
    rcases List.mem_cons.mp z with z | z
    · exact n (z ▸ hC)
    · rcases List.mem_cons.mp z with z | z
      · exact n (z ▸ hD)
      · exact n (List.mem_singleton.mp z ▸ hI)) e⟩
  have wO : ∀ {a b : Heap}, ExtO [I2] a b → ExtO [cenv.locals, Dx, I2] a b := fun q x o n e => q x o (fun z => n (by rw [List.mem_singleton.mp z]; exact .tail _ (.tail _ (.head _)))) e
  have cO : ∀ {a b : Heap}, ExtO [cenv.locals] a b → ExtO [cenv.locals, Dx, I2] a b := fun q x o n e => q x o (fun z => n (by rw [List.mem_singleton.mp z]; exact .head _)) e
  refine codeAny_loop rfl (fun k s' => Ex5 fun h' tk m' ys i => C9 (s' = { s with heap := h', toks := tk }) (St i h') (h'.PlainList Dx ys) (h'.Ns cenv.locals m') (Bd H' m' h' xs1 ds1) (RdAll H' h' (ds0 ++ (es.take i).map f) ys.toList) (i ≤ es.length) (k = es.length + 1 - i) (ExtO [cenv.locals, Dx, I2] s.heap h' ∧ Dm H' h')) (fun k s' hI' => ?_) (es.length + 1)
    ⟨s.heap, s.toks, m, ys0, 0, rfl, hst, hacc, hns, hbd, by simpa using hy0, Nat.zero_le _, rfl, fun _ _ _ e => e, hdm⟩
  obtain ⟨g, tk, m', ys, i, rfl, hst', hacc', hns', hbd', hrd', hi, rfl, hx, hdm'⟩ := hI'
  show wpAny _ A ((compTurn (two2 elt t1 it1 (.Name x2 p2) it2 scope pos) 1 (.ref I2) (.ref Dx) cenv).onRaise (fun x => do noteFrame x cenv; theTreesLotGoes x)) _ _ _
  refine wpAny_noted ?_
  rw [turn_in]
  refine wpAny_bind (wpAny_standAt (wpAny_bind ?_))
  by_cases hlt : i < es.length
  · refine W.item i _ _ _ hlt hst' fun v h₁ tk₁ hPv hst₁ hk₁ => ?_
    obtain ⟨d, hd, hr⟩ := hrd i v hPv
    have x1 : ExtO [I2] g h₁ := hk₁
    have hr1 : Rd H' h₁ d v := hr.to (toH (hx.trans (wO x1)))
    have hdm₁ : Dm H' h₁ := hdm'.step x1 fun c hc => by rw [List.mem_singleton.mp hc]; exact (hIO _ _ hst₁).some
    have hns₁ : h₁.Ns cenv.locals m' := hns'.at' fun o e => x1 _ o (fun z => hCI (List.mem_singleton.mp z)) e
    dsimp only
    show wpAny _ _ (pure () >>= _) _ _ _
    refine wpAny_bind (wpAny_pure ?_)
    refine wpAny_bind (store_name (s := { s with heap := h₁, toks := tk₁ }) hk hl hns₁ fun h₂ tk₂ x2' n2 => ?_)
    have x2' : ExtO [cenv.locals] h₁ h₂ := x2'
    have x12 := (wO x1).trans (cO x2')
    have hx2' := hx.trans x12
    have hst₂ : St (i + 1) h₂ := W.frame _ _ _ hst₁ fun b hb o e => x2' b o (fun z => hCf (List.mem_singleton.mp z ▸ hb)) e
    have hacc₂ : h₂.PlainList Dx ys := (hacc'.at fun o e => x1 _ o (fun z => hDI (List.mem_singleton.mp z)) e).at fun o e => x2' _ o (fun z => hDC (List.mem_singleton.mp z)) e
    have hdm₂ : Dm H' h₂ := hdm₁.step x2' fun c hc => by rw [List.mem_singleton.mp hc]; exact Ns.some n2
    have hrd₂ := hrd'.to (toH x12)
    have b2 : Bd H' (upd m' x2 v) h₂ xs1 ds1 := (hbd'.to (toH x12)).upd hx2
    have b3 : Bd H' (upd m' x2 v) h₂ (xs1 ++ [x2]) (ds1 ++ [d]) := b2.snoc ⟨v, by simp, hr1.to (toH (cO x2'))⟩
    refine wpAny_bind (wpAny_bind (helt d (List.mem_of_getElem? hd) h₂ _ hx2' hdm₂ n2 b3 { s with heap := h₂, toks := tk₂ } _ _ (Ext.refl _) fun y h₄ tk₄ x4 hy => ?_))
    have hys : ys.size ≤ sizeLine := by
      have e1 := hrd₂.length
      have e3 : ys.toList.length = ys.size := by simp
      simp only [List.length_append, List.length_map, List.length_take] at e1
      have : sizeLine = 2 ^ 24 := rfl
      omega
    refine wpAny_bind (wpAny_list_append_plain (s := { s with heap := h₄, toks := tk₄ }) (hsz := hys) (hacc₂.at fun o e => x4 _ o e) fun h₅ hl₅ hs₅ => ?_)
    have x5 : ExtO [Dx] h₄ h₅ := fun b o n e => hs₅.extBut b o (fun z => n (z ▸ .head _)) e
    have x5' : ExtO [cenv.locals, Dx, I2] h₄ h₅ := fun b o n e => x5 b o (fun z => n (by rw [List.mem_singleton.mp z]; exact .tail _ (.head _))) e
    have x25 : ExtO [cenv.locals, Dx, I2] h₂ h₅ := fun b o n e => x5' b o n (x4 b o e)
    refine wpAny_pure (wpAny_pure ⟨rfl, es.length + 1 - (i + 1), by omega, h₅, tk₄, _, ys.push y, i + 1, rfl, ?_, hl₅, (n2.keeps x4).sameBut hs₅ (Ne.symm hDC), b2.to (toH x25), ?_, hlt, rfl, hx2'.trans x25, ?_⟩)
    · exact W.frame _ _ _ hst₂ fun b hb o e => hs₅.extBut b o (fun z => hDf (z ▸ hb)) (x4 b o e)
    · rw [List.take_succ_eq_append_getElem hlt, List.map_append, ← List.append_assoc, Array.toList_push]
      have : es[i] = d := by rw [List.getElem?_eq_getElem hlt] at hd; exact Option.some.inj hd
      rw [this]
      exact (hrd₂.to (toH x25)).snoc (hy.to (toH x5'))
    · exact (hdm₂.ext x4).step x5 fun c hc z => by obtain ⟨n, e⟩ := hl₅; rw [List.mem_singleton.mp hc] at z; rw [z] at e; cases e
  · have hin : i = es.length := by omega
    subst hin
    refine W.done _ _ _ hst' fun h₁ tk₁ hk₁ => ?_
    have x1 : ExtO [I2] g h₁ := hk₁
    refine wpAny_pure (hR h₁ tk₁ m' ys (hx.trans (wO x1)) (hns'.at' fun o e => x1 _ o (fun z => hCI (List.mem_singleton.mp z)) e) (hacc'.at fun o e => x1 _ o (fun z => hDI (List.mem_singleton.mp z)) e) ?_)
    have := hrd'.to (toH (wO x1))
    rwa [List.take_length] at this
end
section
variable {elt t1 it1 it2 : Expr} {scope : Scope} {pos p2 : Pos} {x2 : Str}
structure Wk2 (w : World) (A : Around) (t1 : Expr) (cenv : Env) (H' : List Addr) (xs1 : List Str) (pt1 : D → List D) (ds : List D) (I : Addr) (fp wr : List Addr) (St : Nat → Heap → Prop) (hs : Heap) (X : List Addr) : Prop where
  frame : ∀ i h h₂, St i h → (∀ b ∈ fp, ∀ o, h.get? b = some o → h₂.get? b = some o) → St i h₂
  live : ∀ i h, St i h → ∀ b ∈ wr, h.get? b ≠ none
  done : ∀ (s : Shared) (Q : Option Value → Shared → Prop) (E : Value → Shared → Prop), St ds.length s.heap → (∀ h₂ tk, ExtO wr s.heap h₂ → Q none { s with heap := h₂, toks := tk }) → wpAny (model prg w) A (pyNext (.ref I)) Q E s
  step : ∀ m i (s : Shared) (Q : Option Value → Shared → Prop) (E : Value → Shared → Prop), i < ds.length → St i s.heap → ExtO X hs s.heap → s.heap.Ns cenv.locals m →
    (∀ v s1, (∀ (Q' : Unit → Shared → Prop) (E1 E2 : Value → Shared → Prop), (∀ d h₂ tk₂ m₂, ds[i]? = some d → St (i + 1) h₂ → ExtO (cenv.locals :: wr) s.heap h₂ → h₂.Ns cenv.locals m₂ → Bd H' m₂ h₂ xs1 (pt1 d) → Q' () { s with heap := h₂, toks := tk₂ }) → wpAny (model prg w) A (letOwnedTupleGo t1 (.ref I) v) (fun _ s₂ => wpAny (model prg w) A (assign t1 cenv v) Q' E1 s₂) E2 s1) → Q (some v) s1) →
    wpAny (model prg w) A (pyNext (.ref I)) Q E s
theorem loop_out {I Dx : Addr} {fp : List Addr} {wr : List Addr} {St : Nat → Heap → Prop} {cenv : Env} {m : Str → Option Value} {ds : List D} {es : D → List D} {f : D → D → D} {H' : List Addr} {R : Result → Shared → Prop} {s : Shared} {xs1 : List Str} {pt1 : D → List D}
    (W : Wk2 w A t1 cenv H' xs1 pt1 ds I fp wr St s.heap (cenv.locals :: Dx :: wr)) (hst : St 0 s.heap) (hC : cenv.locals ∈ H') (hD : Dx ∈ H') (hI : ∀ b ∈ wr, b ∈ H') (sub : ∀ b ∈ wr, b ∈ fp) (hDC : Dx ≠ cenv.locals) (hDf : Dx ∉ fp) (hCf : cenv.locals ∉ fp)
    (hacc : s.heap.PlainList Dx #[]) (hns : s.heap.Ns cenv.locals m) (hdm : Dm H' s.heap) (hx2 : x2 ∉ xs1) (hk : cenv.scope.kind = .function) (hl : cenv.kindOf x2 = some .local)
    (src2 : ∀ d ∈ ds, ∀ h₂ m₂, ExtO (cenv.locals :: Dx :: wr) s.heap h₂ → Dm H' h₂ → h₂.Ns cenv.locals m₂ → Bd H' m₂ h₂ xs1 (pt1 d) → Src w A H' cenv h₂ it2 (es d))
    (helt : ∀ d ∈ ds, ∀ e ∈ es d, ∀ I2 h₀ h₂ m₂, ExtO (cenv.locals :: Dx :: wr) s.heap h₀ → h₀.get? I2 = none → ExtO [cenv.locals, Dx, I2] h₀ h₂ → Dm (I2 :: H') h₂ → h₂.Ns cenv.locals m₂ → Bd (I2 :: H') m₂ h₂ (xs1 ++ [x2]) (pt1 d ++ [e]) → Ev w A (I2 :: H') cenv h₂ elt (f d e))
    (hsz : ds.length ≤ 1000) (hsz2 : ∀ d ∈ ds, (es d).length ≤ 50) (hs2 : ∀ x, foldedSetIterable it2 cenv x = pure x)
    (hR : ∀ h' tk m' ys, ExtO (cenv.locals :: Dx :: wr) s.heap h' → h'.Ns cenv.locals m' → h'.PlainList Dx ys → RdAll H' h' (ds.flatMap fun d => (es d).map (f d)) ys.toList → R (.ok .next) { s with heap := h', toks := tk }) :
    codeAny (model prg w) A (.compLoop (two2 elt t1 it1 (.Name x2 p2) it2 scope pos) 0 (.ref I) (.ref Dx) cenv) R s := by
  have hCI : cenv.locals ∉ wr := fun z => hCf (sub _ z)
  have hDI : Dx ∉ wr := fun z => hDf (sub _ z)
  have toH : ∀ {a b : Heap}, ExtO (cenv.locals :: Dx :: wr) a b → To H' a H' b := fun q b o n e => ⟨n, q b o (fun z => by
    rcases List.mem_cons.mp z with z | z
    · exact n (z ▸ hC)
    · rcases List.mem_cons.mp z with z | z
      · exact n (z ▸ hD)
      · exact n (hI _ z)) e⟩
  have wO : ∀ {a b : Heap}, ExtO wr a b → ExtO (cenv.locals :: Dx :: wr) a b := fun q x o n e => q x o (fun z => n (.tail _ (.tail _ z))) e
  have cO2 : ∀ {a b : Heap}, ExtO (cenv.locals :: wr) a b → ExtO (cenv.locals :: Dx :: wr) a b := fun q x o n e => q x o (fun z => n ((List.mem_cons.mp z).elim (fun z => z ▸ .head _) fun z => .tail _ (.tail _ z))) e
  have cO : ∀ {a b : Heap}, ExtO [cenv.locals] a b → ExtO (cenv.locals :: Dx :: wr) a b := fun q x o n e => q x o (fun z => n (by rw [List.mem_singleton.mp z]; exact .head _)) e
  have szT : ∀ i, ((ds.take i).flatMap fun d => (es d).map (f d)).length ≤ 50 * 1000 := fun i => by
    have h1 : ∀ l : List D, (∀ d ∈ l, (es d).length ≤ 50) → (l.flatMap fun d => (es d).map (f d)).length ≤ 50 * l.length := fun l => by
      induction l with
      | nil => intro _; simp
      | cons d l ih =>
        intro q
        have a := q d (.head _)
        have b := ih fun d hd => q d (.tail _ hd)
        simp only [List.flatMap_cons, List.length_append, List.length_map, List.length_cons]
        omega
    have := h1 (ds.take i) fun d hd => hsz2 d (List.mem_of_mem_take hd)
    rw [List.length_take] at this
    omega
  refine codeAny_loop rfl (fun k s' => Ex5 fun h' tk m' ys i => C9 (s' = { s with heap := h', toks := tk }) (St i h') (h'.PlainList Dx ys) (h'.Ns cenv.locals m') (RdAll H' h' ((ds.take i).flatMap fun d => (es d).map (f d)) ys.toList) (i ≤ ds.length) (k = ds.length + 1 - i) (ExtO (cenv.locals :: Dx :: wr) s.heap h') (Dm H' h')) (fun k s' hI' => ?_) (ds.length + 1)
    ⟨s.heap, s.toks, m, #[], 0, rfl, hst, hacc, hns, rfl, Nat.zero_le _, rfl, fun _ _ _ e => e, hdm⟩
  obtain ⟨g, tk, m', ys, i, rfl, hst', hacc', hns', hrd', hi, rfl, hx, hdm'⟩ := hI'
  show wpAny _ A ((compTurn (two2 elt t1 it1 (.Name x2 p2) it2 scope pos) 0 (.ref I) (.ref Dx) cenv).onRaise (fun x => do noteFrame x cenv; theTreesLotGoes x)) _ _ _
  refine wpAny_noted ?_
  rw [turn_out]
  refine wpAny_bind (wpAny_standAt (wpAny_bind ?_))
  by_cases hlt : i < ds.length
  · refine W.step m' i _ _ _ hlt hst' hx hns' fun v s1 bind => ?_
    dsimp only
    refine wpAny_bind (wpAny_mono (bind (fun _ s₂ => ∃ d h₂ tk₂ m₂, s₂ = { s with heap := h₂, toks := tk₂ } ∧ ds[i]? = some d ∧ St (i + 1) h₂ ∧ ExtO (cenv.locals :: wr) g h₂ ∧ h₂.Ns cenv.locals m₂ ∧ Bd H' m₂ h₂ xs1 (pt1 d)) _ _ (fun d h₂ tk₂ m₂ a b x2 hn2 hB => ⟨d, h₂, tk₂, m₂, rfl, a, b, x2, hn2, hB⟩)) (fun _ s₁' z => wpAny_bind (wpAny_mono z (fun _ s₂ z => ?_) fun _ _ e => e)) fun _ _ e => e)
    obtain ⟨d, h₂, tk₂, m₂, rfl, hd, hst₂, x2', hn2, hB⟩ := z
    have hmem : d ∈ ds := List.mem_of_getElem? hd
    have x12 := cO2 x2'
    have hx2' := hx.trans x12
    have hacc₂ : h₂.PlainList Dx ys := hacc'.at fun o e => x2' _ o (fun z => (List.mem_cons.mp z).elim hDC hDI) e
    have hdm₂ : Dm H' h₂ := hdm'.step x2' fun c hc => (List.mem_cons.mp hc).elim (fun z => by rw [z]; exact Ns.some hn2) fun z => W.live _ _ hst₂ c z
    have hrd₂ := hrd'.to (toH x12)
    refine wpAny_bind (wpAny_mono (src2 d hmem h₂ m₂ hx2' hdm₂ hn2 hB { s with heap := h₂, toks := tk₂ } _ _ (Ext.refl _) fun I2 fp2 P2 St2 h₃ tk₃ x3 it2' hI2 => ?_) (fun xv s₁ hq => wpAny_bind (wpAny_standAt (wpAny_bind (wpAny_of_eq (hs2 xv) (wpAny_bind (wpAny_holding hq)))))) fun _ _ e => e)
    have x3 : Ext h₂ h₃ := x3
    have hI2 : h₂.get? I2 = none := hI2
    have hCn : cenv.locals ≠ I2 := fun z => by rw [← z] at hI2; exact Ns.some hn2 hI2
    have hDn : Dx ≠ I2 := fun z => by obtain ⟨n, q⟩ := hacc₂; rw [z, hI2] at q; cases q
    have nfp : ∀ c, c ∈ H' → c ∉ fp2 := fun c hc hf => (it2'.out c hf).elim (fun z => hdm₂ c hc (z ▸ hI2)) fun q => q hc
    have d3 : Dm (I2 :: H') h₃ := fun b hb => (List.mem_cons.mp hb).elim (fun z => z ▸ (it2'.own _ _ it2'.st).some) fun z => hdm₂.ext x3 b z
    have more3 : ∀ {d : D} {v : Value}, Rd H' h₂ d v → Rd (I2 :: H') h₃ d v := fun q => q.more x3 fun b hb => (List.mem_cons.mp hb).elim (fun z => .inr (z ▸ hI2)) .inl
    have t23 : To H' h₂ (I2 :: H') h₃ := To.more x3 fun b hb => (List.mem_cons.mp hb).elim (fun z => .inr (z ▸ hI2)) .inl
    have fin : ∀ (h₅ : Heap) (tk₅ : Nat) (m₅ : Str → Option Value) (ys₅ : Array Value), ExtO [cenv.locals, Dx, I2] h₃ h₅ → h₅.Ns cenv.locals m₅ → h₅.PlainList Dx ys₅ → RdAll (I2 :: H') h₅ (((ds.take i).flatMap fun d => (es d).map (f d)) ++ (es d).map (f d)) ys₅.toList →
        (∃ k, k < ds.length + 1 - i ∧ Ex5 fun h' tk m' ys i => C9 (({ s with heap := h₅, toks := tk₅ } : Shared) = { s with heap := h', toks := tk }) (St i h') (h'.PlainList Dx ys) (h'.Ns cenv.locals m') (RdAll H' h' ((ds.take i).flatMap fun d => (es d).map (f d)) ys.toList) (i ≤ ds.length) (k = ds.length + 1 - i) (ExtO (cenv.locals :: Dx :: wr) s.heap h') (Dm H' h')) := by
      intro h₅ tk₅ m₅ ys₅ x5 n5 a5 r5
      have x25 : ∀ b o, b ≠ cenv.locals → b ≠ Dx → h₂.get? b = some o → h₅.get? b = some o := fun b o nc nd e => x5 b o (fun z => by
        rcases List.mem_cons.mp z with z | z
        · exact nc z
        · rcases List.mem_cons.mp z with z | z
          · exact nd z
          · rw [List.mem_singleton.mp z, hI2] at e; cases e) (x3 b o e)
      refine ⟨ds.length + 1 - (i + 1), by omega, h₅, tk₅, m₅, ys₅, i + 1, rfl, W.frame _ _ _ hst₂ fun b hb o e => x25 b o (fun z => hCf (z ▸ hb)) (fun z => hDf (z ▸ hb)) e, a5, n5, ?_, hlt, rfl, fun b o n e => ?_, fun b hb z => ?_⟩
      · rw [List.take_succ_eq_append_getElem hlt, List.flatMap_append]
        have : ds[i] = d := by rw [List.getElem?_eq_getElem hlt] at hd; exact Option.some.inj hd
        rw [this]
        simp only [List.flatMap_cons, List.flatMap_nil, List.append_nil]
        exact r5.to (To.less fun b hb => .tail _ hb)
      · have e2 := hx2' b o n e
        exact x25 b o (fun z => n (z ▸ .head _)) (fun z => n (z ▸ .tail _ (.head _))) e2
      · by_cases bc : b = cenv.locals
        · exact Ns.some n5 (bc ▸ z)
        · by_cases bd : b = Dx
          · obtain ⟨n, q⟩ := a5; rw [bd] at z; rw [z] at q; cases q
          · cases q : h₂.get? b with
            | none => exact hdm₂ b hb q
            | some o => rw [x25 b o bc bd q] at z; cases z
    refine wpAny_bind (wpAny_runOwn (h := none) ?_)
    rw [Around.mark_none]
    refine start_in ?_ (it2'.W.self 0 { s with heap := h₃, toks := tk₃ } _ _ it2'.st ?_) <;>
    · refine loop_in (s := { s with heap := h₃, toks := tk₃ }) (H' := I2 :: H') (ds0 := (ds.take i).flatMap fun d => (es d).map (f d)) (es := es d) (f := f d) (ds1 := pt1 d) it2'.W it2'.st (.tail _ hC) (.tail _ hD) (.head _) hDC (nfp _ hD) (nfp _ hC) (hacc₂.at fun o e => x3 _ o e) (hrd₂.to t23) (hn2.keeps x3) (hB.to t23) hx2 hk hl d3 it2'.rd it2'.own
        (fun e he h₅ m₅ x5 d5 n5 b5 => helt d hmem e he I2 h₂ h₅ m₅ hx2' hI2 (fun b o n q => x5 b o n (x3 b o q)) d5 n5 b5) (by have := szT i; have := hsz2 d hmem; omega) (fun h₅ tk₅ m₅ ys₅ x5 n5 a5 r5 => ?_)
      exact wpAny_pure ⟨rfl, fin h₅ tk₅ m₅ ys₅ x5 n5 a5 r5⟩
  · have hin : i = ds.length := by omega
    subst hin
    refine W.done _ _ _ hst' fun h₁ tk₁ x1 => ?_
    refine wpAny_pure (hR h₁ tk₁ m' ys (hx.trans (wO x1)) (hns'.at' fun o e => x1 _ o hCI e) (hacc'.at fun o e => x1 _ o hDI e) ?_)
    have := hrd'.to (toH (wO x1))
    rwa [List.take_length] at this
structure Itw (w : World) (A : Around) (t1 : Expr) (ce : Addr → Env) (W : List Addr) (xs1 : List Str) (pt1 : D → List D) (ds : List D) (I : Addr) (fp wr : List Addr) (St : Nat → Heap → Prop) (hs h' : Heap) : Prop where
  st : St 0 h'
  low : ∀ b ∈ fp, b < h'.objs.size
  iw : I ∈ wr
  sub : ∀ b ∈ wr, b ∈ fp
  new : ∀ b ∈ wr, hs.get? b = none
  self : ∀ i (s : Shared) (Q : Value → Shared → Prop) (E : Value → Shared → Prop), St i s.heap → Q (.ref I) s → wpAny (model prg w) A (pyIter (.ref I)) Q E s
  wk : ∀ C Dx h₁, (ce C).locals = C → C ∉ fp → h'.get? C = none → h'.get? Dx = none → Ext h' h₁ → Wk2 w A t1 (ce C) (C :: Dx :: (wr ++ W)) xs1 pt1 ds I fp wr St h₁ (C :: Dx :: wr)
noncomputable def Src2 (w : World) (A : Around) (W : List Addr) (env : Env) (h : Heap) (ce : Addr → Env) (iter t1 : Expr) (xs1 : List Str) (pt1 : D → List D) (ds : List D) : Prop :=
  ∀ (s : Shared) (Q : Value → Shared → Prop) (E : Value → Shared → Prop), Ext h s.heap →
    (∀ I fp wr St h' tk, Ext s.heap h' → Itw w A t1 ce W xs1 pt1 ds I fp wr St s.heap h' → Q (.ref I) { s with heap := h', toks := tk }) → wpAny (model prg w) A (eval iter env) (fun xv s₁ => wpAny (model prg w) A (pyIter xv) Q E s₁) E s
theorem Src2.of {ce : Addr → Env} {xs1 : List Str} {pt1 : D → List D} {ds : List D} (src : Src w A W env h it1 ds) (hb : ∀ C I H' d, d ∈ ds → C ∈ H' → Binds w A H' (ce C) t1 I d (fun m h' => Bd H' m h' xs1 (pt1 d))) : Src2 w A W env h ce it1 t1 xs1 pt1 ds := fun s Q E e k =>
  src s Q E e fun I fp P St h' tk x it hI => k I fp [I] St h' tk x
    { st := it.st, low := it.low, iw := .head _, sub := it.W.sub, new := fun b hb => by rw [List.mem_singleton.mp hb]; exact hI, self := it.W.self
      wk := fun C Dx h₁ eC Cf nC nD x1 =>
        { frame := it.W.frame, live := fun i h a b hb => by rw [List.mem_singleton.mp hb]; exact (it.own i h a).some, done := fun s Q E a k => it.W.done s Q E a fun h₂ tk q => k h₂ tk q
          step := fun m i s Q E hi a x2 n k => it.W.item i s Q E hi a fun v h₂ tk₂ p st₂ x3 => k v _ fun Q' E1 E2 q => by
            have x3 : ExtO [I] s.heap h₂ := x3
            obtain ⟨d, hd, r⟩ := it.rd i v p
            have CI : C ≠ I := fun z => Cf (it.W.sub _ (by rw [z]; exact .head _))
            have r2 : Rd (C :: Dx :: ([I] ++ W)) h₂ d v := r.to fun b o nb eb => by
              have bC : b ≠ C := fun z => by rw [z, nC] at eb; cases eb
              have bD : b ≠ Dx := fun z => by rw [z, nD] at eb; cases eb
              have bI : b ∉ [I] := fun z => nb (by rw [List.mem_singleton.mp z]; exact .head _)
              exact ⟨fun z => (List.mem_cons.mp z).elim bC fun z => (List.mem_cons.mp z).elim bD nb, x3 b o bI (x2 b o (fun z => (List.mem_cons.mp z).elim bC fun z => (List.mem_cons.mp z).elim bD bI) (x1 b o eb))⟩
            refine hb C I _ d (List.mem_of_getElem? hd) (.head _) { s with heap := h₂, toks := tk₂ } v m Q' E1 E2 (it.own _ _ st₂) r2 (n.at' fun o z => x3 _ o (fun y => by rw [eC] at y; exact CI (List.mem_singleton.mp y)) z) fun h₃ tk₃ m₃ x4 n₃ b₃ => ?_
            have x4 : ExtO [(ce C).locals] h₂ h₃ := x4
            exact q d h₃ tk₃ m₃ hd (it.W.frame _ _ _ st₂ fun b hb o z => x4 b o (fun y => by rw [eC] at y; exact Cf (List.mem_singleton.mp y ▸ hb)) z) (fun b o nb z => x4 b o (fun y => nb (by rw [List.mem_singleton.mp y]; exact .head _)) (x3 b o (fun y => nb (.tail _ y)) z)) n₃ b₃ } }
theorem comp_core2 {cl : List (Str × Addr)} {ds : List D} {es : D → List D} {f : D → D → D} {xs1 : List Str} {pt1 : D → List D} (F : Fm h0 W env vars h)
    (src2 : ∀ C H' d h₂, d ∈ ds → Ext h h₂ → (∀ b, b ∈ H' → b ∈ W ∨ h.get? b = none) → Fm h0 H' (compEnvC scope cl C env) (xs1.zip (pt1 d) ++ vars) h₂ → Src w A H' (compEnvC scope cl C env) h₂ it2 (es d))
    (helt : ∀ C H' d e h₂, d ∈ ds → e ∈ es d → Ext h h₂ → (∀ b, b ∈ H' → b ∈ W ∨ h.get? b = none) → Fm h0 H' (compEnvC scope cl C env) ((xs1 ++ [x2]).zip (pt1 d ++ [e]) ++ vars) h₂ → Ev w A H' (compEnvC scope cl C env) h₂ elt (f d e))
    (hsz : ds.length ≤ 1000) (hsz2 : ∀ d ∈ ds, (es d).length ≤ 50) (hs2 : ∀ C x, foldedSetIterable it2 (compEnvC scope cl C env) x = pure x) (hx2 : x2 ∉ xs1)
    (hclos : closureFor scope env = pure cl) (hkind : scope.kind = .function) (hcell : ∀ y ∈ scope.names, y.2 ≠ .cell)
    (hl : (relabel scope env).names.lookup x2 = some .local)
    (hcl : clOk env cl) (hnd : nodupB (cl.map (·.1)) = true) (hbk : blockOk (relabel scope env).names xs1 vars = true) (hbk2 : blockOk (relabel scope env).names (xs1 ++ [x2]) vars = true)
    {s : Shared} {E : Value → Shared → Prop} {I : Addr} {fp : List Addr} {wr : List Addr} {St : Nat → Heap → Prop} {h1 : Heap} {tk1 : Nat} (e : Ext h s.heap) (x1 : Ext s.heap h1) (it : Itw w A t1 (fun C => compEnvC scope cl C env) W xs1 pt1 ds I fp wr St s.heap h1) {RR : Value → Addr → Result → Shared → Prop}
    (hRR : ∀ Dx C h' tk m' ys, Dx ≠ C → h1.get? Dx = none → h1.get? C = none → (∀ b o, b ∉ wr → h1.get? b = some o → h'.get? b = some o) → h'.Ns C m' → h'.PlainList Dx ys → RdAll (C :: Dx :: (wr ++ W)) h' (ds.flatMap fun d => (es d).map (f d)) ys.toList → RR (.ref Dx) C (.ok .next) { s with heap := h', toks := tk }) :
    wpAny (model prg w) A (newList []) (fun acc s₃ => wpAny (model prg w) A (newFunctionEnv scope env.globals cl [] env.qual none .none (some env)) (fun cenv s₄ =>
      codeAny (model prg w) A (.compStart (two2 elt t1 it1 (.Name x2 p2) it2 scope pos) 0 (.ref I) acc { cenv with scope := relabel scope env }) (RR acc cenv.locals) s₄) E s₃) E { s with heap := h1, toks := tk1 } := by
  have hdm := F.dm
  have hI : ∀ b ∈ wr, h.get? b = none := fun b hb => e.gone (it.new b hb)
  have hfp : ∀ b ∈ fp, b < h1.objs.size := it.low
  refine wpAny_newObj_type (s := { s with heap := h1, toks := tk1 }) (wpAny_newFunctionEnv hcell (by intro y hy; simp at hy) (fun h₁ hns₁ hsb₁ => ?_) hkind)
  dsimp only at hns₁ hsb₁ ⊢
  generalize hH2 : h1.push { cls := .type "list", dict := none, data := .seq ([] : List Value).toArray } = H2 at hns₁ hsb₁ ⊢
  have hC : H2.objs.size = h1.objs.size + 1 := by rw [← hH2, Heap.size_push]
  have hDC : h1.objs.size ≠ H2.objs.size := by rw [hC]; exact Nat.ne_of_lt (Nat.lt_succ_self _)
  have below : ∀ b, b < h1.objs.size → b ≠ H2.objs.size ∧ b ≠ h1.objs.size := fun b hb => ⟨by rw [hC]; exact Nat.ne_of_lt (Nat.lt_succ_of_lt hb), Nat.ne_of_lt hb⟩
  have hDf : h1.objs.size ∉ fp := fun hm => Nat.lt_irrefl _ (hfp _ hm)
  have hCf : H2.objs.size ∉ fp := fun hm => by have := hfp _ hm; rw [hC] at this; exact Nat.lt_irrefl _ (Nat.lt_of_succ_lt this)
  have old : Ext h1 h₁ := fun b o e => hsb₁.extBut b o (below b (Heap.lt_size e)).1 (Heap.get?_push_of_some _ (hH2 ▸ Heap.get?_push_of_some _ e))
  have hacc : h₁.PlainList h1.objs.size #[] := ⟨_, hsb₁.extBut _ _ hDC (Heap.get?_push_of_some _ (hH2 ▸ Heap.get?_push_size _ rfl))⟩
  have fresh : ∀ a, h1.objs.size ≤ a → h1.get? a = none := fun a ha => by
    cases e : h1.get? a with
    | none => rfl
    | some o' => exact absurd (Heap.lt_size e) (Nat.not_lt.mpr ha)
  have hCn : h1.get? H2.objs.size = none := fresh _ (by rw [hC]; exact Nat.le_succ _)
  have hDn : h1.get? h1.objs.size = none := fresh _ (Nat.le_refl _)
  generalize hCC : H2.objs.size = C at *
  generalize hDD : h1.objs.size = Dx at *
  have xe := e.trans x1
  have Wk := it.wk C Dx h₁ rfl hCf hCn hDn old
  have hst₁ : St 0 h₁ := Wk.frame _ _ _ it.st fun b _ o e => old b o e
  have sC : h.get? C = none := xe.gone hCn
  have sD : h.get? Dx = none := xe.gone hDn
  have hmore : ∀ b, b ∈ C :: Dx :: (wr ++ W) → b ∈ W ∨ h.get? b = none := fun b hb => by
    rcases List.mem_cons.mp hb with rfl | hb
    · exact .inr sC
    · rcases List.mem_cons.mp hb with rfl | hb
      · exact .inr sD
      · exact (List.mem_append.mp hb).elim (fun z => .inr (hI b z)) .inl
  have hdm₁ : Dm (C :: Dx :: (wr ++ W)) h₁ := fun b hb z => by
    rcases List.mem_cons.mp hb with rfl | hb
    · exact Ns.some hns₁ z
    · rcases List.mem_cons.mp hb with rfl | hb
      · obtain ⟨n, q⟩ := hacc; rw [q] at z; cases z
      · exact (List.mem_append.mp hb).elim (fun y => Wk.live _ _ hst₁ b y z) fun y => (hdm.ext (xe.trans old)) b y z
  have up : ∀ {h₂ : Heap}, ExtO (C :: Dx :: wr) h₁ h₂ → Ext h h₂ := fun x2 b o q => x2 b o (fun z => by
    rcases List.mem_cons.mp z with z | z
    · rw [z, sC] at q; cases q
    · rcases List.mem_cons.mp z with z | z
      · rw [z, sD] at q; cases q
      · rw [hI b z] at q; cases q) ((xe.trans old) b o q)
  refine (fun q => codeAny_compStart_list q (it.self 0 { s with heap := h₁, toks := _ } _ _ hst₁ q)) ?_
  · refine loop_out (s := { s with heap := h₁, toks := _ }) (cenv := compEnvC scope cl C env) (H' := C :: Dx :: (wr ++ W)) (es := es) (f := f) (pt1 := pt1) (x2 := x2) (p2 := p2) Wk hst₁ (.head _) (.tail _ (.head _)) (fun b hb => .tail _ (.tail _ (List.mem_append_left _ hb))) it.sub hDC hDf hCf hacc hns₁ hdm₁ hx2 hkind hl
      (fun d hd h₂ m₂ x2 d2 n2 b2 => ?_) (fun d hd e he I2 h₀ h₂ m₂ x0 n0 x2 d2 n2 b2 => ?_) hsz hsz2 (hs2 C) (fun h' tk m' ys x2 n2 a2 r2 => ?_)
    · exact src2 C _ d h₂ hd (up x2) hmore (F.turn ⟨up x2, d2, hmore, fun b hb => .tail _ (.tail _ (List.mem_append_right _ hb)), n2, .head _, sC⟩ b2 hkind hcell hcl (nodupB.of hnd) hbk)
    · have m2 : ∀ b, b ∈ I2 :: C :: Dx :: (wr ++ W) → b ∈ W ∨ h.get? b = none := fun b hb => (List.mem_cons.mp hb).elim (fun z => .inr (z ▸ (up x0).gone n0)) (hmore b)
      have u2 : Ext h h₂ := fun b o q => x2 b o (fun z => by
        rcases List.mem_cons.mp z with z | z
        · rw [z, show (compEnvC scope cl C env).locals = C from rfl, sC] at q; cases q
        · rcases List.mem_cons.mp z with z | z
          · rw [z, sD] at q; cases q
          · rw [List.mem_singleton.mp z, (up x0).gone n0] at q; cases q) (up x0 b o q)
      exact helt C _ d e h₂ hd he u2 m2 (F.turn ⟨u2, d2, m2, fun b hb => .tail _ (.tail _ (.tail _ (List.mem_append_right _ hb))), n2, .tail _ (.head _), sC⟩ b2 hkind hcell hcl (nodupB.of hnd) hbk2)
    · refine hRR Dx C h' tk m' ys hDC hDn hCn (fun b o nI q1 => ?_) n2 a2 r2
      have bC : b ≠ C := fun z => by rw [z, hCn] at q1; exact nomatch q1
      have bD : b ≠ Dx := fun z => by rw [z, hDn] at q1; exact nomatch q1
      exact x2 b o (fun z => (List.mem_cons.mp z).elim bC fun z => (List.mem_cons.mp z).elim bD nI) (old b o q1)
theorem Xx.asgC2 {y : Str} {py spos : Pos} {cl : List (Str × Addr)} {ds : List D} {es : D → List D} {f : D → D → D} {xs1 : List Str} {pt1 : D → List D} (X : Fx hb V h0 W env vars os h) (src : Src2 w A W env h (fun C => compEnvC scope cl C env) it1 t1 xs1 pt1 ds)
    (src2 : ∀ C H' d h₂, d ∈ ds → Ext h h₂ → (∀ b, b ∈ H' → b ∈ W ∨ h.get? b = none) → Fm h0 H' (compEnvC scope cl C env) (xs1.zip (pt1 d) ++ vars) h₂ → Src w A H' (compEnvC scope cl C env) h₂ it2 (es d))
    (helt : ∀ C H' d e h₂, d ∈ ds → e ∈ es d → Ext h h₂ → (∀ b, b ∈ H' → b ∈ W ∨ h.get? b = none) → Fm h0 H' (compEnvC scope cl C env) ((xs1 ++ [x2]).zip (pt1 d ++ [e]) ++ vars) h₂ → Ev w A H' (compEnvC scope cl C env) h₂ elt (f d e))
    (hsz : ds.length ≤ 1000) (hsz2 : ∀ d ∈ ds, (es d).length ≤ 50) (k : ∀ h', Fx hb V h0 W env ((y, .list (ds.flatMap fun d => (es d).map (f d))) :: vars) os h' → Xs w A env PN PR h' rest)
    (hsw : swapsWith (two2 elt t1 it1 (.Name x2 p2) it2 scope pos) (some (.Name y py)) spos.line env = pure true := by rfl) (kd : locOk env y = true := by rfl) (hs2 : ∀ C x, foldedSetIterable it2 (compEnvC scope cl C env) x = pure x := by intro _ _; rfl) (hx2 : x2 ∉ xs1 := by decide)
    (hclos : closureFor scope env = pure cl := by rfl) (hkind : scope.kind = .function := by rfl) (hcell : ∀ y ∈ scope.names, y.2 ≠ .cell := by decide) (hnames : ∀ y ∈ scope.names, y.2 = .local → scope.names.lookup y.1 = some .local := by decide)
    (hl : (relabel scope env).names.lookup x2 = some .local := by rfl)
    (hcl : clOk env cl := by repeat constructor) (hnd : nodupB (cl.map (·.1)) = true := by rfl) (hbk : blockOk (relabel scope env).names xs1 vars = true := by rfl) (hbk2 : blockOk (relabel scope env).names (xs1 ++ [x2]) vars = true := by rfl)
    (hs : ∀ x, foldedSetIterable it1 env x = pure x := by intro _; rfl) : Xs w A env PN PR h (.Assign [.Name y py] (two2 elt t1 it1 (.Name x2 p2) it2 scope pos) spos :: rest) := fun s Q E he kn kr => by
  subst he
  refine wpAny_execs_cons ?_
  rw [exec_Assign_Name_used _ _ _ _ hsw]
  refine wpAny_bind (wpAny_standAt (wpAny_bind ?_))
  show wpAny _ A (do let _ ← comprehension (two2 elt t1 it1 (.Name x2 p2) it2 scope pos) scope env _ (PySem.newList []) false (eval it1 env) (some (assign (.Name y py) env))) _ _ s
  refine wpAny_bind (wpAny_mono (wpAny_comprehension_free (use := some (assign (.Name y py) env)) (Q := fun _ s' => ∃ h' tk, s' = { s with heap := h', toks := tk } ∧ Fx hb V h0 W env ((y, .list (ds.flatMap fun d => (es d).map (f d))) :: vars) os h') rfl hs hclos hkind hnames
    (src s _ E (Ext.refl _) fun I fp wr St h1 tk1 x1 it => ?_)) (fun _ s' hq => wpAny_pure (wpAny_pure ?_)) fun _ _ e => e)
  · refine comp_core2 (RR := fun acc C => compPost (model prg w) A E (some (assign (.Name y py) env)) (fun _ s' => ∃ h' tk, s' = { s with heap := h', toks := tk } ∧ Fx hb V h0 W env ((y, .list (ds.flatMap fun d => (es d).map (f d))) :: vars) os h') acc C) X.F src2 helt hsz hsz2 hs2 hx2 hclos hkind hcell hl hcl hnd hbk hbk2 (Ext.refl _) x1 it fun Dx C h' tk m' ys hDC hDn hCn x2 n2 a2 r2 => ?_
    have xe : Ext s.heap h' := fun b o q => x2 b o (fun z => by rw [it.new b z] at q; cases q) (x1 b o q)
    have sC : s.heap.get? C = none := x1.gone hCn
    have sD : s.heap.get? Dx = none := x1.gone hDn
    have CW : C ∉ W := fun z => X.F.dm _ z sC
    have DW : Dx ∉ W := fun z => X.F.dm _ z sD
    have X1 : Fx hb V h0 ([C] ++ W) env vars os h' := X.hide xe (fun b hb => by rw [List.mem_singleton.mp hb]; exact sC) (fun b hb => by rw [List.mem_singleton.mp hb]; exact Ns.some n2)
    have rv : Rd ([C] ++ W) h' (.list (ds.flatMap fun d => (es d).map (f d))) (.ref Dx) := ⟨Dx, ys.toList, rfl, fun z => (List.mem_cons.mp z).elim hDC DW, by simpa using a2.isList, r2.to (To.less fun b hb => (List.mem_cons.mp hb).elim (fun z => z ▸ .head _) fun z => .tail _ (.tail _ (List.mem_append_right _ z)))⟩
    show wpAny _ A (assign (.Name y py) env (.ref Dx)) _ _ _
    refine wpAny_assign_Name (X1.F.store (s := { s with heap := h', toks := tk }) rv kd fun h2 tk2 m2 F2 => ?_)
    have X2 := X1.stored m2 F2
    have Cf : C ∉ frA env := fun z => CW (X.F.inW _ z)
    refine ⟨m', n2.at' fun o e => m2.off _ o Cf e, fun h3 hs3 => ⟨h3, tk2, rfl, ?_⟩⟩
    exact Fx.drop (W := W) X2 (fun b o n e => hs3.extBut b o (fun z => n (List.mem_singleton.mpr z)) e) (X.F.ext.gone sC) (Mv.gone X.mv sC) CW X.vW
  · obtain ⟨h', tk, rfl, X3⟩ := hq
    exact k h' X3 _ Q E rfl kn kr
end
section
variable {VB HB : List Addr} {hst : Heap}
theorem CB.maxL {ns : List Int} {M : Int} (hh : A.handled = none) (hM : M ∈ ns) (hle : ∀ a ∈ ns, a ≤ M) : CB w A H h "max" [.list (ns.map D.int)] (.int M) := fun vs h₁ e0 r s Q E e k => by
  obtain ⟨u, rfl, a, ws, rfl, n, hl, q⟩ := one r
  have hi := q.ints
  obtain ⟨xs, ex⟩ := hi.allInts.items
  have hns : ns = xs.toList.map (·.1) := by rw [← hi.numsOf, ← nums_intItems, ← ex]
  have hsz : 0 < xs.size := by
    have : 0 < ns.length := List.length_pos_of_mem hM
    rw [hns, List.length_map, Array.length_toList] at this; exact this
  have hl := hl.at fun o q => e _ _ q
  rw [ex] at hl
  refine max_intList hh hl hsz fun v h' tk hv hk => ?_
  obtain ⟨t, rfl⟩ := intItems_at hv
  obtain ⟨h1, h2⟩ := argBest_gt (numAt xs) (xs.size - 1)
  refine k _ h' tk hk ⟨t, congrArg (Value.int · t) (Int.le_antisymm (hle _ ?_) ?_)⟩
  · rw [hns, numAt_eq]; exact getD_mem (by rw [List.length_map, Array.length_toList]; omega)
  · rw [hns] at hM
    obtain ⟨j, hj, rfl⟩ := mem_getD hM
    rw [List.length_map, Array.length_toList] at hj
    rw [← numAt_eq]; exact h2 j (by omega)
theorem free_all (h : Heap) : ∀ l : List Addr, ∃ h0 : Heap, (∀ b ∈ l, h0.get? b = none) ∧ ∀ b, b ∉ l → h0.get? b = h.get? b
  | [] => ⟨h, fun b hb => absurd hb List.not_mem_nil, fun _ _ => rfl⟩
  | c :: l => by
    obtain ⟨h0, p, q⟩ := free_all h l
    have fr : (h0.update c fun o => { o with data := .freed }).get? c = none := by
      unfold Heap.update Heap.get?
      rw [Array.getElem?_modify, if_pos rfl]
      cases h0.objs[c]? <;> rfl
    refine ⟨h0.update c fun o => { o with data := .freed }, fun b hb => ?_, fun b nb => ?_⟩
    · by_cases z : c = b
      · rw [← z]; exact fr
      · rw [Heap.get?_update_other _ _ z]
        exact p b ((List.mem_cons.mp hb).resolve_left fun e => z e.symm)
    · rw [Heap.get?_update_other _ _ fun e => nb (by rw [e]; exact .head _)]
      exact q b fun z => nb (.tail _ z)
theorem Fm.rebase {W' : List Addr} (F : Fm hb W env vars h) (q : ∀ b ∈ W', b ∈ W) (q' : ∀ b ∈ frA env, b ∈ W') : ∃ h1, (∀ b, b ∉ frA env → h1.get? b = h.get? b) ∧ Ext h1 h ∧ Ext hb h1 ∧ To W' h W' h1 ∧ Fm h1 W' env vars h := by
  obtain ⟨h1, p, r⟩ := free_all h (frA env)
  have F' := F.less q q'
  have x1 : Ext h1 h := fun b o e => by
    by_cases z : b ∈ frA env
    · rw [p b z] at e; cases e
    · rw [← r b z]; exact e
  refine ⟨h1, r, x1, fun b o e => ?_, fun b o n e => ⟨n, ?_⟩, { F' with ext := x1, fresh := p }⟩
  · rw [r b fun z => by rw [F.fresh b z] at e; cases e]; exact F.ext b o e
  · rw [r b fun z => n (q' b z)]; exact e
theorem Lx.unpackT {J : List Addr → Heap → Prop} {n : Nat} {tp pos : Pos} {ts : List Expr} {xs : List (Str × Pos)} {e : Expr} {P : List D → (List Addr → Heap → Prop) → Prop} (sj : ∀ d J', P d J' → Sta J') (L : Lx VB HB J hst V h0 W env vars os h) (hh : A.handled = none)
    (m : Mx w A h (eval e env) (fun v h1 => ∃ ds J', P ds J' ∧ xs.length = ds.length ∧ Mv VB h h1 ∧ J' HB h1 ∧ Rd W h1 (.tup ds) v))
    (k : ∀ ds J' h', P ds J' → Lx VB HB J' hst V h0 W env (((xs.map (·.1)).zip ds).reverse ++ vars) os h' → Xs w A env PN PR h' rest) (lo : ∀ x ∈ xs, locOk env x.1 = true)
    (hea : assignEach ts env = xs.map fun x => (false, assign (.Name x.1 x.2) env)) (hw : swappedStores [.Tuple ts n tp] e env = pure none := by rfl)
    (hs : swapsWithSole [.Tuple ts n tp] e pos.line env = pure false := by rfl) : Xs w A env PN PR h (.Assign [.Tuple ts n tp] e pos :: rest) := fun s Q E he kn kr => by
  subst he
  refine wpAny_execs_cons (Assign_Tuple (m s _ E rfl fun v h1 tk1 ⟨ds, J', p, hl, mv, j, t, vs, e1, n1, ht, r⟩ => ?_) hs hw)
  subst e1
  have L1 := L.eff mv j
  refine assign_Tuple_tuple (s := { s with heap := h1, toks := tk1 }) hh ht (by rw [hea]; simp [r.length, hl]) (by rw [hea]; simp [List.findIdx?_eq_none_iff]) fun h2 x2 => ?_
  have x2 := ext_of_but x2
  rw [hea, List.map_map]
  refine Fx.assigns xs ds vs vars _ _ E hl (r.ext x2) lo (L1.X.up x2) fun h3 tk3 X3 => ?_
  exact k ds J' h3 p (L1.next0 (sj ds J' p) X3) _ Q E rfl kn kr
theorem Xx.asgX {x : Str} {px pos : Pos} {e : Expr} {P : D → Heap → Prop} (X : Fx hb V h0 W env vars os h) (m : Mx w A h (eval e env) (fun v h1 => ∃ d, Ext h h1 ∧ P d h1 ∧ Rd W h1 d v)) (k : ∀ d h1 h', P d h1 → Ext h h1 → Mv (frA env) h1 h' → Fx hb V h0 W env ((x, d) :: vars) os h' → Xs w A env PN PR h' rest) (kd : locOk env x = true := by rfl)
    (hs : swapsWith e (some (.Name x px)) pos.line env = pure false := by rfl) : Xs w A env PN PR h (.Assign [.Name x px] e pos :: rest) := fun s Q E he kn kr =>
  wpAny_execs_cons (wpAny_Assign_Name (m s _ E he fun v h1 tk ⟨d, x1, p, r⟩ => by
    have X1 := X.up x1
    exact X1.F.store (s := { s with heap := h1, toks := tk }) r kd fun h' tk' m' F' => k d h1 h' p x1 m' (X1.stored m' F') _ Q E rfl kn kr) hs)
end
noncomputable def lit (kv : List (Int × At)) (x : Int) : Bool := decide (tget kv (if x < 0 then -x else x) = some (.bool (decide (x > 0))))
theorem kept_any {kv : List (Int × At)} {cl : List Int} : kept kv cl = cl.any (lit kv) := rfl
theorem kept_congr {kv : List (Int × At)} {a b : List Int} (h : ∀ x, x ∈ a ↔ x ∈ b) : kept kv a = kept kv b := by
  rw [Bool.eq_iff_iff, kept_any, kept_any, List.any_eq_true, List.any_eq_true]
  exact ⟨fun ⟨x, p, q⟩ => ⟨x, (h x).mp p, q⟩, fun ⟨x, p, q⟩ => ⟨x, (h x).mpr p, q⟩⟩
theorem lit_neg {kv : List (Int × At)} {x : Int} {b : Bool} (hx : 0 < x) (h : tget kv x = some (.bool b)) : lit kv x = b ∧ lit kv (-x) = !b := by
  have n1 : ¬ x < 0 := by omega
  have n2 : -x < 0 := by omega
  have n3 : ¬ (-x > 0) := by omega
  unfold lit
  rw [if_neg n1, if_pos n2, show - -x = x by omega, h, decide_eq_true (show x > 0 from hx), decide_eq_false n3]
  cases b <;> decide
theorem wdGo_some : ∀ {r f l : List Int}, f.Nodup → (∀ x ∈ f, -x ∉ f) → 0 ∉ r → wdGo r f = some l → l.Nodup ∧ (∀ x ∈ l, -x ∉ l) ∧ ∀ x, x ∈ l ↔ x ∈ r ∨ x ∈ f
  | [], f, l, n, c, z, e => by cases e; exact ⟨n, c, fun x => by simp⟩
  | y :: r, f, l, n, c, z, e => by
    unfold wdGo at e
    have zr : 0 ∉ r := fun q => z (.tail _ q)
    have zy : y ≠ 0 := fun q => z (q ▸ .head _)
    split at e
    · cases e
    · rename_i h1
      split at e
      · rename_i h2
        obtain ⟨a, b, d⟩ := wdGo_some n c zr e
        refine ⟨a, b, fun x => (d x).trans ?_⟩
        rw [List.mem_cons]
        exact ⟨fun q => q.elim (fun q => .inl (.inr q)) .inr, fun q => q.elim (fun q => q.elim (fun q => .inr (q ▸ h2)) .inl) .inr⟩
      · rename_i h2
        obtain ⟨a, b, d⟩ := wdGo_some (f := f ++ [y]) (List.nodup_append.mpr ⟨n, by simp, fun x hx z hz => by rw [List.mem_singleton.mp hz]; exact fun q => h2 (q ▸ hx)⟩) (fun x hx q => by
          rcases List.mem_append.mp hx with hx | hx
          · rcases List.mem_append.mp q with q | q
            · exact c x hx q
            · have := List.mem_singleton.mp q
              exact h1 (by rw [← this, Int.neg_neg]; exact hx)
          · have hx := List.mem_singleton.mp hx
            rcases List.mem_append.mp q with q | q
            · rw [hx] at q; exact h1 q
            · have := List.mem_singleton.mp q; omega) zr e
        refine ⟨a, b, fun x => (d x).trans ?_⟩
        rw [List.mem_cons, List.mem_append, List.mem_singleton]
        exact ⟨fun q => q.elim (fun q => .inl (.inr q)) fun q => q.elim .inr fun q => .inl (.inl q), fun q => q.elim (fun q => q.elim (fun q => .inr (.inr q)) .inl) fun q => .inr (.inl q)⟩
theorem wdGo_none : ∀ {r f : List Int}, wdGo r f = none → ∃ x, x ∈ r ∧ (-x ∈ f ∨ -x ∈ r)
  | [], f, e => by cases e
  | y :: r, f, e => by
    unfold wdGo at e
    split at e
    · rename_i h; exact ⟨y, .head _, .inl h⟩
    · split at e
      · obtain ⟨x, a, b⟩ := wdGo_none e
        exact ⟨x, .tail _ a, b.imp id fun q => .tail _ q⟩
      · obtain ⟨x, a, b⟩ := wdGo_none e
        rcases b with b | b
        · rcases List.mem_append.mp b with b | b
          · exact ⟨x, .tail _ a, .inl b⟩
          · exact ⟨x, .tail _ a, .inr (by rw [List.mem_singleton.mp b]; exact .head _)⟩
        · exact ⟨x, .tail _ a, .inr (.tail _ b)⟩
theorem clauses_all : ∀ {atoms : List Int} (_ : ∀ x ∈ atoms, 0 < x) (f : List (List Int)) (l : List Int), l.Nodup → (∀ x ∈ l, -x ∉ l) → (∀ x ∈ l, x ∈ atoms ∨ -x ∈ atoms) → ∀ p ∈ f, (∀ x ∈ p, x ∉ atoms ∧ -x ∉ atoms) → atoms.Nodup →
    ∃ q, (p ++ q) ∈ atoms.foldl clausesStep f ∧ q.Perm l
  | [], _, f, l, n, c, m, p, hp, _, _ => by
    cases l with
    | nil => exact ⟨[], by simpa using hp, .refl _⟩
    | cons x l => exact absurd (m x (.head _)) (by simp)
  | y :: r, pos, f, l, n, c, m, p, hp, off, nd => by
    have y0 := pos y (.head _)
    have nd' := List.nodup_cons.mp nd
    have pr : ∀ x ∈ r, 0 < x := fun x hx => pos x (.tail _ hx)
    rw [List.foldl_cons]
    have offr : ∀ x ∈ p, x ∉ r ∧ -x ∉ r := fun x hx => ⟨fun q => (off x hx).1 (.tail _ q), fun q => (off x hx).2 (.tail _ q)⟩
    have take : ∀ s : Int, s = y ∨ s = -y → s ∈ l → (∀ g ∈ f, g ++ [s] ∈ clausesStep f y) → ∃ q, (p ++ q) ∈ r.foldl clausesStep (clausesStep f y) ∧ q.Perm l := fun s hs hl hg => by
      obtain ⟨q, h1, h2⟩ := clauses_all pr (clausesStep f y) (l.erase s) (n.erase s) (fun x hx q => c x (List.mem_of_mem_erase hx) (List.mem_of_mem_erase q)) (fun x hx => by
        have hx' := (List.Nodup.mem_erase_iff n).mp hx
        have e1 : x ≠ y ∧ x ≠ -y := by
          refine ⟨fun e => ?_, fun e => ?_⟩
          · rcases hs with q | q
            · exact hx'.1 (by omega)
            · exact c s hl (by rw [q, Int.neg_neg, ← e]; exact hx'.2)
          · rcases hs with q | q
            · exact c s hl (by rw [q, ← e]; exact hx'.2)
            · exact hx'.1 (by omega)
        rcases m x hx'.2 with q | q
        · exact .inl ((List.mem_cons.mp q).resolve_left e1.1)
        · exact .inr ((List.mem_cons.mp q).resolve_left fun q => e1.2 (by omega))) (p ++ [s]) (hg p hp) (fun x hx => by
        rcases List.mem_append.mp hx with hx | hx
        · exact offr x hx
        · rw [List.mem_singleton.mp hx]
          rcases hs with q | q
          · rw [q]; exact ⟨nd'.1, fun z => by have := pr _ z; omega⟩
          · rw [q, Int.neg_neg]; exact ⟨fun z => by have := pr _ z; omega, nd'.1⟩) nd'.2
      exact ⟨s :: q, by simpa using h1, (List.Perm.cons s h2).trans (List.perm_cons_erase hl).symm⟩
    by_cases h1 : y ∈ l
    · exact take y (.inl rfl) h1 fun g hg => by unfold clausesStep; exact List.mem_append_left _ (List.mem_append_right _ (List.mem_map_of_mem (f := (· ++ [y])) hg))
    · by_cases h2 : -y ∈ l
      · exact take (-y) (.inr rfl) h2 fun g hg => by unfold clausesStep; exact List.mem_append_right _ (List.mem_map_of_mem (f := (· ++ [-y])) hg)
      · refine clauses_all pr (clausesStep f y) l n c (fun x hx => ?_) p (by unfold clausesStep; exact List.mem_append_left _ (List.mem_append_left _ hp)) offr nd'.2
        rcases m x hx with q | q
        · exact .inl ((List.mem_cons.mp q).resolve_left fun e => h1 (e ▸ hx))
        · exact .inr ((List.mem_cons.mp q).resolve_left fun e => h2 (by rw [← e, Int.neg_neg]; exact hx))
theorem rows_right {t : Int} {atoms : List Int} {rows : List (List (Int × At))} {ha : Bool} (bt : st.boolB (.int t) = true) (ft : st.op t ∈ FORMS) (pos : ∀ x ∈ atoms, 0 < x) (nd : atoms.Nodup) (z : ∀ line ∈ st.defn t, 0 ∉ line)
    (row : ∀ kv ∈ rows, (∀ x ∈ atoms, ∃ b, tget kv x = some (.bool b)) ∧ (∃ b, tget kv t = some (.bool b)) ∧ (∀ line ∈ st.defn t, kept kv line = true) ∧ (ha = true → ∃ line ∈ st.defn t, (∀ x ∈ line, x ∈ atoms ∨ -x ∈ atoms) ∧ kept (flipT kv t) line = false)) :
    rows.all (rowRight (st.letOf atoms t) t ha) = true := by
  have sp : ∀ {a b : List Int}, srt a = srt b → a.Perm b := fun {a b} e => by
    have p1 : (srt a).Perm a := List.mergeSort_perm _ _
    have p2 : (srt b).Perm b := List.mergeSort_perm _ _
    exact p1.symm.trans (e ▸ p2)
  have hf : ∀ cl, st.fault cl (.int t) = S "" ↔ st.lets cl t = true := fun cl => by
    show (if _ then _ else _) = _ ↔ _
    rw [if_pos ⟨bt, ft⟩]
    split
    · rename_i q; exact ⟨fun _ => q, fun _ => rfl⟩
    · rename_i q; exact ⟨fun e => absurd e (by decide), fun e => absurd e q⟩
  rw [List.all_eq_true]
  intro kv hkv
  obtain ⟨tot, ⟨bt', tt⟩, r1, r2⟩ := row kv hkv
  unfold rowRight
  rw [Bool.and_eq_true]
  refine ⟨?_, ?_⟩
  · rw [List.all_eq_true]
    intro cl hcl
    have q := (List.mem_filter.mp hcl).2
    have q := (hf cl).mp (beq_iff_eq.mp q)
    obtain ⟨line, hl, hh⟩ := List.any_eq_true.mp q
    unfold hits at hh
    cases hw : wd line with
    | none => rw [hw] at hh; cases hh
    | some l =>
      rw [hw] at hh
      have p := sp (of_decide_eq_true hh)
      obtain ⟨_, _, m⟩ := wdGo_some List.nodup_nil (fun _ h => absurd h List.not_mem_nil) (z line hl) hw
      rw [kept_congr (b := line) fun x => (p.symm.mem_iff).trans ((m x).trans (by simp))]
      exact r1 line hl
  · cases ha with
    | false => rfl
    | true =>
      obtain ⟨line, hl, at', kf⟩ := r2 rfl
      rw [Bool.true_and, Bool.not_eq_true']
      cases hw : wd line with
      | none =>
        exfalso
        obtain ⟨x, hx, hn⟩ := wdGo_none hw
        have hn : -x ∈ line := hn.resolve_left List.not_mem_nil
        have both : ∀ y, y ∈ atoms → y ∈ line → -y ∈ line → False := fun y ya h1 h2 => by
          have fl : ∃ b, tget (flipT kv t) y = some (.bool b) := by
            rw [flip_get tt]
            split
            · exact ⟨_, rfl⟩
            · exact tot y ya
          obtain ⟨b, hb⟩ := fl
          obtain ⟨e1, e2⟩ := lit_neg (pos y ya) hb
          have : kept (flipT kv t) line = true := by
            rw [kept_any, List.any_eq_true]
            cases b with
            | true => exact ⟨y, h1, e1⟩
            | false => exact ⟨-y, h2, by rw [e2]; rfl⟩
          rw [kf] at this; cases this
        rcases at' x hx with q | q
        · exact both x q hx hn
        · exact both (-x) q hn (by rw [Int.neg_neg]; exact hx)
      | some l =>
        obtain ⟨n, c, m⟩ := wdGo_some List.nodup_nil (fun _ h => absurd h List.not_mem_nil) (z line hl) hw
        have m' : ∀ x, x ∈ l ↔ x ∈ line := fun x => (m x).trans (by simp)
        obtain ⟨q, q1, q2⟩ := clauses_all pos [[]] l n c (fun x hx => at' x ((m' x).mp hx)) [] (.head _) (fun x hx => absurd hx List.not_mem_nil) nd
        have q1 : q ∈ clausesOf atoms := by simpa [clausesOf] using q1
        rw [List.all_eq_false]
        refine ⟨q, List.mem_filter.mpr ⟨q1, beq_iff_eq.mpr ((hf q).mpr (List.any_eq_true.mpr ⟨line, hl, ?_⟩))⟩, ?_⟩
        · unfold hits; rw [hw]; exact decide_eq_true (srt_congr q2.symm)
        · rw [kept_congr (b := line) fun x => q2.mem_iff.trans (m' x), kf]; exact Bool.false_ne_true
noncomputable def Pv (w : World) (A : Around) (W : List Addr) (h : Heap) : List (Sem Value × Sem Value) → List (Int × At) → Prop
  | [], [] => True
  | p :: ps, q :: kv => Gv w A h p.1 (fun v h' => Rd W h' (.int q.1) v) ∧ Gv w A h p.2 (fun v h' => Rd W h' q.2.d v) ∧ Pv w A W h ps kv
  | _, _ => False
noncomputable def tmerge (acc kv : List (Int × At)) : List (Int × At) := kv.foldl (fun acc p => tset acc p.1 p.2) acc
theorem tmerge_vals : ∀ {kv : List (Int × At)} {kvs : List (Int × Value)} {acc : List (Int × At)} {accs : List (Int × Value)}, TabVals kv kvs → TabVals acc accs → TabVals (tmerge acc kv) (merged accs kvs)
  | [], [], _, _, _, q => q
  | [], _ :: _, _, _, p, _ => nomatch p
  | _ :: _, [], _, _, p, _ => nomatch p
  | x :: kv, y :: kvs, acc, accs, ⟨p1, p2, p3⟩, q => by
    show TabVals (tmerge (tset acc x.1 x.2) kv) (merged (stored accs y.1 y.2) kvs)
    rw [← p1]
    exact tmerge_vals p3 (TabVals.set p2 q)
theorem Pv.go : ∀ {ps : List (Sem Value × Sem Value)} {kv : List (Int × At)} {s : Shared} {Q : List (Value × Value) → Shared → Prop} {E : Value → Shared → Prop}, Pv w A W h ps kv → Ext h s.heap →
    (∀ vs kvs h' tk, Ext s.heap h' → Carries (intKind prg w) vs kvs → TabVals kv kvs → Q vs { s with heap := h', toks := tk }) → wpAny (model prg w) A (evalPairs ps) Q E s
  | [], [], s, Q, E, _, x, k => evalPairs_nil (k [] [] s.heap s.toks (Ext.refl _) trivial trivial)
  | [], _ :: _, _, _, _, p, _, _ => nomatch p
  | _ :: _, [], _, _, _, p, _, _ => nomatch p
  | (k1, v1) :: ps, q :: kv, s, Q, E, ⟨p1, p2, p3⟩, x, k => evalPairs_cons (p1 s _ E x fun u h1 tk1 x1 ⟨t, e1⟩ => p2 _ _ E (x.trans x1) fun v h2 tk2 x2 r2 => Pv.go p3 (x.trans (x1.trans x2)) fun vs kvs h3 tk3 x3 c tv => by
      subst e1
      exact k _ ((q.1, v) :: kvs) h3 tk3 (x1.trans (x2.trans x3)) ⟨isInt_of, rfl, c⟩ ⟨rfl, At.rd.mp r2, tv⟩)
theorem dictLit {keys : List (Option Expr)} {values : List Expr} {pos : Pos} {ps : List (Sem Value × Sem Value)} {kv : List (Int × At)} (g : Gd w mg mb h) (p : Pv w A W h ps kv) (hz : ps.length ≤ 15) (h0 : ps ≠ [])
    (hsh : (evalEachOpt keys env).zip ((evalEach values env).map fun v => do let x ← v; standAt pos; pure x) = ps.map fun p => (some p.1, p.2) := by rfl) :
    ∀ (s : Shared) (Q : Value → Shared → Prop) (E : Value → Shared → Prop), s.heap = h → (∀ l h' tk, h.get? l = none → Ext h h' → Tab h' l (tmerge [] kv) → Q (.ref l) { s with heap := h', toks := tk }) → wpAny (model prg w) A (eval (.Dict keys values pos) env) Q E s := fun s Q E he k => by
  subst he
  refine wpAny_Dict_pairs (knd := intKind prg w) hsh h0 hz ?_
  have x0 : Ext s.heap (s.heap.push { cls := .type "dict", data := .dict #[] }) := Ext.push _ _
  refine p.go (s := { s with heap := s.heap.push { cls := .type "dict", data := .dict #[] } }) x0 fun vs kvs h' tk x c tv => ?_
  have d0 : (s.heap.push { cls := .type "dict", data := .dict #[] }).DictOf (intKind prg w) s.heap.objs.size [] := Heap.DictOf.new _
  have ln : s.heap.get? s.heap.objs.size = none := get_new _
  refine ⟨kvs, c, ?_, fun h2 d2 hs2 => ?_⟩
  · obtain ⟨o, es, ep, q, r⟩ := d0
    exact ⟨o, es, ep, x _ _ q, r⟩
  · refine k _ h2 _ ln (fun b o e => ?_) ⟨sys_size g, w, _, d2, tmerge_vals tv trivial⟩
    exact hs2.extBut b o (fun z => by rw [z, ln] at e; cases e) (x b o (x0 b o e))
theorem Pv.cons {k v : Expr} {pos : Pos} {i : Int} {a : At} {ps : List (Sem Value × Sem Value)} {kv : List (Int × At)} (hk : Ev w A W env h k (.int i)) (hv : Ev w A W env h v a.d) (r : Pv w A W h ps kv) : Pv w A W h ((eval k env, (do let x ← eval v env; standAt pos; pure x)) :: ps) ((i, a) :: kv) :=
  ⟨hk, fun s Q E e k => wpAny_bind (hv s _ E e fun v h' tk x r => wpAny_bind (wpAny_standAt (wpAny_pure (k v h' tk x r)))), r⟩
theorem numFrom_new {k : Key} : ∀ {ts : List Key} {n : Nat}, k ∉ ts → numFrom ts k n = 0
  | [], _, _ => rfl
  | x :: r, n, h => by
    show (if x = k then n else numFrom r k (n + 1)) = 0
    rw [if_neg fun e : x = k => h (e ▸ .head _)]
    exact numFrom_new fun q => h (.tail _ q)
theorem numFrom_last {k : Key} : ∀ {ts : List Key} {n : Nat}, k ∉ ts → numFrom (ts ++ [k]) k n = n + ts.length
  | [], n, _ => by show (if k = k then n else _) = _; rw [if_pos rfl]; rfl
  | x :: r, n, h => by
    show (if x = k then n else numFrom (r ++ [k]) k (n + 1)) = _
    rw [if_neg fun e : x = k => h (e ▸ .head _), numFrom_last fun q => h (.tail _ q)]
    simp; omega
theorem BS.made_new {k : Key} (h : k ∉ st.ts) : st.made k = { st with ts := st.ts ++ [k] } ∧ st.numM k = st.ts.length + 1 := by
  have : numOf st.ts k = 0 := by unfold numOf; rw [numFrom_new h]; rfl
  unfold BS.made BS.numM
  rw [if_pos this, if_pos this]
  exact ⟨rfl, rfl⟩
theorem BS.new_at {k : Key} (h : k ∉ st.ts) : (st.made k).is (st.ts.length + 1) ∧ (st.made k).op (st.ts.length + 1) = k.1 ∧ (st.made k).args (st.ts.length + 1) = k.2.1 ∧ (st.made k).sort (st.ts.length + 1) = k.2.2.1 := by
  rw [(BS.made_new h).1]
  have e : (st.ts ++ [k])[((st.ts.length : Int) + 1 - 1).toNat]? = Option.some k := by
    rw [show ((st.ts.length : Int) + 1 - 1).toNat = st.ts.length by omega, List.getElem?_append_right (Nat.le_refl _)]; simp
  refine ⟨⟨by omega, by simp⟩, ?_, ?_, ?_⟩
  · unfold BS.op; rw [e]
  · unfold BS.args; rw [e]
  · unfold BS.sort; rw [e]
theorem BS.Wf.made {k : Key} (f : st.Wf) (h : k ∉ st.ts) (nk : k.1 ≠ S "not") : (st.made k).Wf := ⟨fun t i q => by
  by_cases z : t ≤ st.ts.length
  · have it : st.is t := ⟨i.1, z⟩
    obtain ⟨_, e1, e2, _⟩ := BS.made_get (k := k) it
    rw [e1] at q
    obtain ⟨x, a, b, c⟩ := f.nots t it q
    exact ⟨x, by rw [e2]; exact a, (BS.made_get b).1, c⟩
  · have : t = st.ts.length + 1 := by
      have := i.2
      rw [(BS.made_new h).1] at this
      simp at this; omega
    rw [this, (BS.new_at h).2.1] at q
    exact absurd q nk⟩
theorem wf11 : st11.Wf := ⟨fun t i q => by
  obtain ⟨n, rfl⟩ : ∃ n : Nat, t = n + 1 := ⟨(t - 1).toNat, by have := i.1; omega⟩
  have hn : n < 11 := by have := i.2; have e : (st11.ts.length : Int) = 11 := by kernel_rfl
                         omega
  have : ∀ n : Nat, n < 11 → st11.op ((n : Int) + 1) = S "not" → ∃ x ∈ [(3 : Int), 4, 5], st11.args ((n : Int) + 1) = [x] ∧ x < (n : Int) + 1 := by decide +kernel
  obtain ⟨x, m, a, b⟩ := this n hn q
  refine ⟨x, a, ?_, b⟩
  have : ∀ x ∈ [(3 : Int), 4, 5], 0 < x ∧ x ≤ 11 := by decide
  exact this x m⟩
structure P11 (st : BS) : Prop where
  wf : st.Wf
  pool : ∀ x ∈ pool, st.is x ∧ st.sort x = 0 ∧ st.op x = st11.op x ∧ st.args x = st11.args x
theorem P11.base : P11 st11 := ⟨wf11, fun x hx => ⟨(pool_ok x hx).1, (pool_ok x hx).2, rfl, rfl⟩⟩
theorem P11.made {k : Key} (p : P11 st) (h : k ∉ st.ts) (nk : k.1 ≠ S "not") : P11 (st.made k) := ⟨p.wf.made h nk, fun x hx => by
  obtain ⟨a, b, c, d⟩ := p.pool x hx
  obtain ⟨a', c', d', b'⟩ := BS.made_get (k := k) a
  exact ⟨a', b'.trans b, c'.trans c, d'.trans d⟩⟩
noncomputable def OPS : List Str := [S "and", S "or", S "xor", S "=>", S "=", S "ite", S "distinct"]
theorem ops11 : ∀ k ∈ st11.ts, k.1 ∉ OPS := by
  have : st11.ts.all (fun k => !(OPS.contains k.1)) = true := by decide +kernel
  intro k hk
  have := List.all_eq_true.mp this k hk
  simpa using this
theorem new11 {k : Key} (h : k.1 ∈ OPS) : k ∉ st11.ts := fun q => ops11 k q h
structure DF (st : BS) (t : Int) (op : Str) (is : List Int) : Prop where
  p : P11 st
  len : st.ts.length ≤ 13
  mem : ∀ x ∈ is, x ∈ pool
  l23 : is.length = 2 ∨ is.length = 3
  ops : op ∈ OPS
  top : (st.is t ∧ st.op t = op ∧ (st.args t = is ∨ (op = S "=" ∧ ∃ x y, is = [x, y] ∧ st.args t = [y, x])) ∧ st.sort t = 0 ∧ 12 ≤ t) ∨ (t = 1 ∧ op = S "=" ∧ st = st11)
  tv : t = 1 ∨ t = 12 ∨ (t = 13 ∧ is.length = 2)
  ite : op = S "ite" → is.length = 3
  two : op ≠ S "and" → op ≠ S "or" → op ≠ S "ite" → is.length = 2
  dist : op = S "distinct" → ∃ x y, is = [x, y] ∧ ((x ≠ y ∧ numOf st.ts (BS.eqK x y) = 12 ∧ t = 13) ∨ (x = y ∧ t = 12))
theorem len11 : (st11.ts.length : Int) = 11 := by kernel_rfl
theorem DF.of1 {op : Str} {is : List Int} (ho : op ∈ OPS) (nd : op ≠ S "distinct") (m : ∀ x ∈ is, x ∈ pool) (l : is.length = 2 ∨ is.length = 3) (ite : op = S "ite" → is.length = 3) (two : op ≠ S "and" → op ≠ S "or" → op ≠ S "ite" → is.length = 2) :
    DF (st11.made (op, is, 0, 0)) (st11.numM (op, is, 0, 0)) op is := by
  have n : (op, is, (0 : Int), (0 : Int)) ∉ st11.ts := new11 ho
  have nn : op ≠ S "not" := fun e => by rw [e] at ho; revert ho; decide
  obtain ⟨e1, e2⟩ := BS.made_new n
  obtain ⟨a, b, c, d⟩ := BS.new_at n
  rw [e2]
  refine ⟨P11.base.made n nn, ?_, m, l, ho, .inl ⟨a, b, .inl c, d, by rw [len11]; decide⟩, .inr (.inl (by rw [len11]; rfl)), ite, two, fun q => absurd q nd⟩
  exact Nat.le_trans BS.made_len (by decide)
theorem Drawn.df {t : Int} {op : Str} {is : List Int} (d : Drawn st t op is) : DF st t op is := by
  have two : ∀ {x y : Int}, x ∈ Mine.pool → y ∈ Mine.pool → ∀ z ∈ [x, y], z ∈ Mine.pool := fun p q z hz => by
    rcases List.mem_cons.mp hz with rfl | hz
    · exact p
    · rw [List.mem_singleton.mp hz]; exact q
  cases d with
  | and l p => exact DF.of1 (by decide) (by decide) p l (fun q => absurd q (by decide)) fun q _ _ => absurd rfl q
  | or l p => exact DF.of1 (by decide) (by decide) p l (fun q => absurd q (by decide)) fun _ q _ => absurd rfl q
  | xor p q => exact DF.of1 (by decide) (by decide) (two p q) (.inl rfl) (fun q => absurd q (by decide)) fun _ _ _ => rfl
  | imp p q => exact DF.of1 (by decide) (by decide) (two p q) (.inl rfl) (fun q => absurd q (by decide)) fun _ _ _ => rfl
  | ite p q r => exact DF.of1 (by decide) (by decide) (fun z hz => (List.mem_cons.mp hz).elim (fun e => e ▸ p) (two q r z)) (.inr rfl) (fun _ => rfl) fun _ _ q => absurd rfl q
  | @eq x y p q =>
    unfold BS.eqd BS.eqN
    by_cases e : x = y
    · rw [if_pos e, if_pos e]
      exact ⟨P11.base, by decide, two p q, .inl rfl, by decide, .inr ⟨rfl, rfl, rfl⟩, .inl rfl, fun q => absurd q (by decide), fun _ _ _ => rfl, fun q => absurd q (by decide)⟩
    · rw [if_neg e, if_neg e]
      have n : BS.eqK x y ∉ st11.ts := new11 (show S "=" ∈ OPS by decide)
      obtain ⟨e1, e2⟩ := BS.made_new n
      obtain ⟨a, b, c, d⟩ := BS.new_at n
      rw [e2]
      refine ⟨P11.base.made n (show S "=" ≠ S "not" by decide), Nat.le_trans BS.made_len (by decide), two p q, .inl rfl, by decide, .inl ⟨a, b, ?_, d, by rw [len11]; decide⟩, .inr (.inl (by rw [len11]; rfl)), fun q => absurd q (by decide), fun _ _ _ => rfl, fun q => absurd q (by decide)⟩
      rw [c]
      by_cases l : y < x
      · exact .inr ⟨rfl, x, y, rfl, by show [if y < x then y else x, if y > x then y else x] = _; rw [if_pos l, if_neg (by omega)]⟩
      · left; show [if y < x then y else x, if y > x then y else x] = _; rw [if_neg l]; split; rfl; rw [show x = y by omega]
  | @dist x y p q =>
    unfold BS.eqd
    by_cases e : x = y
    · rw [if_pos e]
      have n : (S "distinct", [x, y], (0 : Int), (0 : Int)) ∉ st11.ts := new11 (show S "distinct" ∈ OPS by decide)
      obtain ⟨e1, e2⟩ := BS.made_new n
      obtain ⟨a, b, c, d⟩ := BS.new_at n
      rw [e2]
      exact ⟨P11.base.made n (show S "distinct" ≠ S "not" by decide), Nat.le_trans BS.made_len (by decide), two p q, .inl rfl, by decide, .inl ⟨a, b, .inl c, d, by rw [len11]; decide⟩, .inr (.inl (by rw [len11]; rfl)), fun q => absurd q (by decide), fun _ _ _ => rfl, fun _ => ⟨x, y, rfl, .inr ⟨e, by rw [len11]; rfl⟩⟩⟩
    · rw [if_neg e]
      have n : BS.eqK x y ∉ st11.ts := new11 (show S "=" ∈ OPS by decide)
      obtain ⟨e1, e2⟩ := BS.made_new n
      have n2 : (S "distinct", [x, y], (0 : Int), (0 : Int)) ∉ (st11.made (BS.eqK x y)).ts := by
        rw [e1]; intro z
        rcases List.mem_append.mp z with z | z
        · exact new11 (show S "distinct" ∈ OPS by decide) z
        · have := congrArg (·.1) (List.mem_singleton.mp z)
          revert this
          show ¬ (S "distinct" = S "=")
          decide
      have l1 : ((st11.made (BS.eqK x y)).ts.length : Int) = 12 := by rw [e1]; show ((st11.ts ++ [BS.eqK x y]).length : Int) = 12; rw [List.length_append]; have := len11; simp; omega
      obtain ⟨f1, f2⟩ := BS.made_new n2
      obtain ⟨a, b, c, d⟩ := BS.new_at n2
      rw [f2, l1]
      rw [l1] at a b c d
      refine ⟨(P11.base.made n (show S "=" ≠ S "not" by decide)).made n2 (show S "distinct" ≠ S "not" by decide), by have := BS.made_len (st := st11.made (BS.eqK x y)) (k := (S "distinct", [x, y], 0, 0)); omega, two p q, .inl rfl, by decide, .inl ⟨a, b, .inl c, d, by decide⟩, .inr (.inr ⟨rfl, rfl⟩), fun q => absurd q (by decide), fun _ _ _ => rfl, fun _ => ⟨x, y, rfl, .inl ⟨e, ?_, rfl⟩⟩⟩
      rw [f1, e1]
      unfold numOf
      have k1 : ∀ {ts : List Key} {k k' : Key} {n : Nat}, numFrom ts k n ≠ 0 → numFrom (ts ++ [k']) k n = numFrom ts k n := fun {ts} => by
        induction ts with
        | nil => intro k k' n q; exact absurd rfl q
        | cons x r ih =>
          intro k k' n q
          show (if x = k then n else numFrom (r ++ [k']) k (n + 1)) = (if x = k then n else numFrom r k (n + 1))
          by_cases z : x = k
          · rw [if_pos z, if_pos z]
          · rw [if_neg z, if_neg z]
            refine ih fun y => q ?_
            show (if x = k then n else numFrom r k (n + 1)) = 0
            rw [if_neg z]; exact y
      have k0 : numFrom (st11.ts ++ [BS.eqK x y]) (BS.eqK x y) 1 = 12 := by rw [numFrom_last n]; have := len11; omega
      show (numFrom ((st11.ts ++ [BS.eqK x y]) ++ [_]) _ 1 : Int) = 12
      rw [k1 (by rw [k0]; decide), k0]; rfl
noncomputable def bit (n k : Nat) : Bool := Int.fmod (Int.fdiv (n : Int) (2 ^ k : Nat)) 2 == 1
noncomputable def rowK (n i : Nat) : List (Int × At) := ([(1, .bool true), (2, .bool false), (3, .bool (bit n 0)), (4, .bool (bit n 1)), (5, .bool (bit n 2))] : List (Int × At)).take (2 + i)
noncomputable def val (n : Nat) (x : Int) : Bool := if x = 1 then true else if x = 2 then false else if x = 3 then bit n 0 else if x = 4 then bit n 1 else bit n 2
noncomputable def tr (n : Nat) (x : Int) : Bool := val n (st11.plain x).1 == (st11.plain x).2
noncomputable def five : List Int := [1, 2, 3, 4, 5]
theorem val_at (n : Nat) : ∀ x ∈ five, tget (rowK n 3) x = some (.bool (val n x)) := fun x hx => by
  simp only [five, List.mem_cons, List.not_mem_nil, or_false] at hx
  rcases hx with rfl | rfl | rfl | rfl | rfl <;> rfl
theorem five_le : ∀ x ∈ five, 0 < x ∧ x ≤ 5 := by decide
theorem plain_pool : ∀ x ∈ pool, (st11.plain x).1 ∈ five ∧ ((st11.op x ≠ S "not" ∧ st11.plain x = (x, true)) ∨ (st11.op x = S "not" ∧ ∃ y ∈ [(3 : Int), 4, 5], st11.args x = [y] ∧ st11.plain x = (y, false) ∧ y ∈ pool ∧ st11.op y ≠ S "not")) := by decide +kernel
theorem sgn_pool (p : P11 st) {x : Int} (hx : x ∈ pool) : st.signed x = if (st11.plain x).2 then (st11.plain x).1 else -(st11.plain x).1 := by
  obtain ⟨i, s, o, ar⟩ := p.pool x hx
  rcases (plain_pool x hx).2 with ⟨n, e⟩ | ⟨n, y, hy, a, e, py, oy⟩
  · rw [e, BS.signed_else (by rw [o]; exact n)]; rfl
  · rw [e, BS.signed_not p.wf i (by rw [o]; exact n) (by rw [ar]; exact a), BS.signed_else (by rw [(p.pool y py).2.2.1]; exact oy)]; rfl
theorem pln_pool (p : P11 st) {x : Int} (hx : x ∈ pool) : st.plain x = st11.plain x := by
  obtain ⟨i, s, o, ar⟩ := p.pool x hx
  unfold BS.plain
  rw [o, ar]
theorem sgn_lit (p : P11 st) {kv : List (Int × At)} {n : Nat} (h : ∀ x ∈ five, tget kv x = some (.bool (val n x))) {x : Int} (hx : x ∈ pool) : lit kv (st.signed x) = tr n x ∧ lit kv (-(st.signed x)) = !tr n x := by
  have m := (plain_pool x hx).1
  obtain ⟨a, b⟩ := lit_neg (five_le _ m).1 (h _ m)
  rw [sgn_pool p hx]
  unfold tr
  cases (st11.plain x).2 with
  | true => exact ⟨by simpa using a, by simpa using b⟩
  | false => exact ⟨by simpa using b, by simpa using a⟩
noncomputable def rowOf (op : Str) (e t : Int) (is : List Int) (n : Nat) : List (Int × At) :=
  tset (if op = S "distinct" then tset (rowK n 3) e (.bool (tr n is[0]! == tr n is[1]!)) else rowK n 3) t (.bool (meant op (is.map (tr n))))
noncomputable def atomsOf (op : Str) (e t : Int) (is : List Int) : List Int := if op = S "distinct" then srt (ddp [t, e]) else srt (ddp (is.map (fun x => (st11.plain x).1) ++ [t]))
theorem srt_mem {l : List Int} {x : Int} : x ∈ srt l ↔ x ∈ l := (List.mergeSort_perm _ _).mem_iff
theorem srt_nodup {l : List Int} (n : l.Nodup) : (srt l).Nodup := (List.mergeSort_perm _ _).nodup_iff.mpr n
theorem defn_ends {t : Int} {op : Str} {is : List Int} (ho : st.op t = op) (ha : st.args t = is) (n1 : op ≠ S "true") (n2 : op ≠ S "false") (n3 : op ≠ S "distinct") (hs : st.sort (is.getLast?.getD 0) = 0) : st.defn t = linesOf op t (is.map st.signed) := by
  unfold BS.defn
  rw [ho, ha, if_neg n1, if_neg n2, if_neg n3, if_neg (fun z => z hs)]
theorem lines_by {op : Str} {t : Int} {ends : List Int} (C : List (List Int) → Str → List Int → Prop) (hop : op ∈ OPS) (nd : op ≠ S "distinct") (l : ends.length = 2 ∨ ends.length = 3) (ite : op = S "ite" → ends.length = 3) (two : op ≠ S "and" → op ≠ S "or" → op ≠ S "ite" → ends.length = 2)
    (a2 : ∀ x y, C [[-t, x], [-t, y], [t, -x, -y]] (S "and") [x, y]) (a3 : ∀ x y z, C [[-t, x], [-t, y], [-t, z], [t, -x, -y, -z]] (S "and") [x, y, z])
    (o2 : ∀ x y, C [[t, -x], [t, -y], [-t, x, y]] (S "or") [x, y]) (o3 : ∀ x y z, C [[t, -x], [t, -y], [t, -z], [-t, x, y, z]] (S "or") [x, y, z])
    (xo : ∀ p q, C [[-t, p, q], [-t, -p, -q], [t, -p, q], [t, p, -q]] (S "xor") [p, q]) (im : ∀ p q, C [[-t, -p, q], [t, p], [t, -q]] (S "=>") [p, q])
    (eq : ∀ p q, C [[-t, -p, q], [-t, p, -q], [t, p, q], [t, -p, -q]] (S "=") [p, q]) (it : ∀ c a b, C [[-t, -c, a], [-t, c, b], [t, -c, -a], [t, c, -b]] (S "ite") [c, a, b]) : C (linesOf op t ends) op ends := by
  have e : ∀ {b : List (List Int)} {op : Str} {es : List Int}, C b op es → linesOf op t es = b → C (linesOf op t es) op es := fun c e => e ▸ c
  have sh := l23 l
  clear l
  simp only [OPS, List.mem_cons, List.not_mem_nil, or_false] at hop
  rcases hop with rfl | rfl | rfl | rfl | rfl | rfl | rfl
  · rcases sh with ⟨x, y, rfl⟩ | ⟨x, y, z, rfl⟩
    · exact e (a2 x y) (by kernel_rfl)
    · exact e (a3 x y z) (by kernel_rfl)
  · rcases sh with ⟨x, y, rfl⟩ | ⟨x, y, z, rfl⟩
    · exact e (o2 x y) (by kernel_rfl)
    · exact e (o3 x y z) (by kernel_rfl)
  · obtain ⟨x, y, rfl⟩ := l2e (two (by decide) (by decide) (by decide))
    exact e (xo x y) (by kernel_rfl)
  · obtain ⟨x, y, rfl⟩ := l2e (two (by decide) (by decide) (by decide))
    exact e (im x y) (by kernel_rfl)
  · obtain ⟨x, y, rfl⟩ := l2e (two (by decide) (by decide) (by decide))
    exact e (eq x y) (by kernel_rfl)
  · obtain ⟨x, y, z, rfl⟩ := l3e (ite rfl)
    exact e (it x y z) (by kernel_rfl)
  · exact absurd rfl nd
theorem mem2 {P : Int → Prop} {x y : Int} (h : ∀ e ∈ [x, y], P e) : P x ∧ P y := ⟨h _ (.head _), h _ (.tail _ (.head _))⟩
theorem mem3 {P : Int → Prop} {x y z : Int} (h : ∀ e ∈ [x, y, z], P e) : P x ∧ P y ∧ P z := ⟨h _ (.head _), h _ (.tail _ (.head _)), h _ (.tail _ (.tail _ (.head _)))⟩
theorem lines_any {T : Int → Bool} {op : Str} {t : Int} {ends : List Int} (hop : op ∈ OPS) (nd : op ≠ S "distinct") (l : ends.length = 2 ∨ ends.length = 3) (ite : op = S "ite" → ends.length = 3) (two : op ≠ S "and" → op ≠ S "or" → op ≠ S "ite" → ends.length = 2)
    (ht : T (-t) = !T t) : (∀ x ∈ ends, T (-x) = !T x) → ((linesOf op t ends).all fun line => line.any T) = (T t == meant op (ends.map T)) := by
  refine lines_by (C := fun ls op es => (∀ x ∈ es, T (-x) = !T x) → (ls.all fun line => line.any T) = (T t == meant op (es.map T))) hop nd l ite two (fun x y h => ?_) (fun x y z h => ?_) (fun x y h => ?_) (fun x y z h => ?_) (fun x y h => ?_) (fun x y h => ?_) (fun x y h => ?_) (fun x y z h => ?_)
  all_goals
    first
    | (obtain ⟨a, b, c⟩ := mem3 h
       simp only [List.all_cons, List.all_nil, List.any_cons, List.any_nil, List.map_cons, List.map_nil, ht, a, b, c]
       clear a b c h ht
       generalize T t = M
       generalize T x = P
       generalize T y = Q
       generalize T z = R
       revert M P Q R; decide)
    | (obtain ⟨a, b⟩ := mem2 h
       simp only [List.all_cons, List.all_nil, List.any_cons, List.any_nil, List.map_cons, List.map_nil, ht, a, b]
       clear a b h ht
       generalize T t = M
       generalize T x = P
       generalize T y = Q
       revert M P Q; decide)
theorem lines_all {ok : Int → Bool} {op : Str} {t : Int} {ends : List Int} (hop : op ∈ OPS) (nd : op ≠ S "distinct") (l : ends.length = 2 ∨ ends.length = 3) (ite : op = S "ite" → ends.length = 3) (two : op ≠ S "and" → op ≠ S "or" → op ≠ S "ite" → ends.length = 2)
    (t1 : ok t = true) (t2 : ok (-t) = true) : (∀ x ∈ ends, ok x = true ∧ ok (-x) = true) → ((linesOf op t ends).all fun line => line.all ok) = true := by
  refine lines_by (C := fun ls op es => (∀ x ∈ es, ok x = true ∧ ok (-x) = true) → (ls.all fun line => line.all ok) = true) hop nd l ite two (fun x y h => ?_) (fun x y z h => ?_) (fun x y h => ?_) (fun x y z h => ?_) (fun x y h => ?_) (fun x y h => ?_) (fun x y h => ?_) (fun x y z h => ?_)
  all_goals
    first
    | (obtain ⟨⟨a1, a2⟩, ⟨b1, b2⟩, c1, c2⟩ := mem3 h
       simp only [List.all_cons, List.all_nil, t1, t2, a1, a2, b1, b2, c1, c2, Bool.and_self])
    | (obtain ⟨⟨a1, a2⟩, b1, b2⟩ := mem2 h
       simp only [List.all_cons, List.all_nil, t1, t2, a1, a2, b1, b2, Bool.and_self])
theorem defn_lines {t : Int} {op : Str} {is js : List Int} (p : P11 st) (ho : st.op t = op) (ha : st.args t = js) (hjs : js = is ∨ (op = S "=" ∧ ∃ x y, is = [x, y] ∧ js = [y, x])) (m : ∀ x ∈ is, x ∈ pool) (hop : op ∈ OPS) (nd : op ≠ S "distinct") (l : is.length = 2 ∨ is.length = 3) :
    st.defn t = linesOf op t (js.map st.signed) ∧ (∀ x ∈ js, x ∈ is) ∧ (js.map st.signed).length = is.length := by
  have mj : (∀ x ∈ js, x ∈ is) ∧ js.length = is.length := by
    rcases hjs with rfl | ⟨_, x, y, rfl, rfl⟩
    · exact ⟨fun x h => h, rfl⟩
    · exact ⟨by simp, rfl⟩
  have jl : js ≠ [] := fun e => by have := mj.2; rw [e] at this; simp at this; omega
  have hs : st.sort (js.getLast?.getD 0) = 0 := by
    rw [List.getLast?_eq_some_getLast jl]
    exact (p.pool _ (m _ (mj.1 _ (List.getLast_mem jl)))).2.1
  exact ⟨defn_ends ho ha (fun e => by rw [e] at hop; revert hop; decide) (fun e => by rw [e] at hop; revert hop; decide) nd hs, mj.1, by rw [List.length_map]; exact mj.2⟩
structure RowOk (kv : List (Int × At)) (n : Nat) (t : Int) (M : Bool) : Prop where
  v : ∀ x ∈ five, tget kv x = some (.bool (val n x))
  t : tget kv t = some (.bool M)
theorem RowOk.flip {kv : List (Int × At)} {n : Nat} {t : Int} {M : Bool} (r : RowOk kv n t M) (ht : 12 ≤ t) : RowOk (flipT kv t) n t (!M) :=
  ⟨fun x hx => by rw [flip_get r.t, if_neg (by have := (five_le x hx).2; omega)]; exact r.v x hx, by rw [flip_get r.t, if_pos rfl]⟩
theorem lines_mean {t : Int} {op : Str} {is js : List Int} {kv : List (Int × At)} {n : Nat} {M : Bool} (p : P11 st) (r : RowOk kv n t M) (ht : 12 ≤ t) (ho : st.op t = op) (ha : st.args t = js) (hjs : js = is ∨ (op = S "=" ∧ ∃ x y, is = [x, y] ∧ js = [y, x])) (m : ∀ x ∈ is, x ∈ pool) (hop : op ∈ OPS) (nd : op ≠ S "distinct")
    (l : is.length = 2 ∨ is.length = 3) (ite : op = S "ite" → is.length = 3) (two : op ≠ S "and" → op ≠ S "or" → op ≠ S "ite" → is.length = 2) : ((st.defn t).all fun line => kept kv line) = (M == meant op (is.map (tr n))) := by
  obtain ⟨t1, t2⟩ := lit_neg (show 0 < t by omega) r.t
  obtain ⟨de, mj, ll⟩ := defn_lines p ho ha hjs m hop nd l
  have L : ∀ x ∈ js, lit kv (st.signed x) = tr n x ∧ lit kv (-(st.signed x)) = !tr n x := fun x hx => sgn_lit p r.v (m x (mj x hx))
  rw [← ll] at l ite two
  rw [de]
  refine (lines_any (T := lit kv) hop nd l ite two (t2.trans (by rw [t1])) fun x hx => ?_).trans ?_
  · obtain ⟨y, hy, rfl⟩ := List.mem_map.mp hx
    rw [(L y hy).1, (L y hy).2]
  · rw [t1, List.map_map, show js.map (lit kv ∘ st.signed) = js.map (tr n) from List.map_congr_left fun x hx => (L x hx).1]
    clear de mj ll L l ite two
    rcases hjs with rfl | ⟨rfl, x, y, rfl, rfl⟩
    · rfl
    · show (M == meant (S "=") [tr n y, tr n x]) = (M == meant (S "=") [tr n x, tr n y])
      generalize tr n x = P
      generalize tr n y = Q
      clear r t1 t2
      revert M P Q; decide
theorem lines_over {t : Int} {op : Str} {is js : List Int} {ok : Int → Bool} (p : P11 st) (t1 : ok t = true) (t2 : ok (-t) = true) (L : ∀ x ∈ is, ok (st.signed x) = true ∧ ok (-(st.signed x)) = true) (ho : st.op t = op) (ha : st.args t = js) (hjs : js = is ∨ (op = S "=" ∧ ∃ x y, is = [x, y] ∧ js = [y, x])) (m : ∀ x ∈ is, x ∈ pool) (hop : op ∈ OPS) (nd : op ≠ S "distinct")
    (l : is.length = 2 ∨ is.length = 3) (ite : op = S "ite" → is.length = 3) (two : op ≠ S "and" → op ≠ S "or" → op ≠ S "ite" → is.length = 2) : ((st.defn t).all fun line => line.all ok) = true := by
  obtain ⟨de, mj, ll⟩ := defn_lines p ho ha hjs m hop nd l
  rw [← ll] at l ite two
  rw [de]
  refine lines_all hop nd l ite two t1 t2 fun x hx => ?_
  obtain ⟨y, hy, rfl⟩ := List.mem_map.mp hx
  exact L y (mj y hy)
theorem one_in {is : List Int} (m : ∀ x ∈ is, x ∈ pool) : ∀ x ∈ is.map (fun x => (st11.plain x).1), x ∈ five := fun x hx => by
  obtain ⟨y, hy, rfl⟩ := List.mem_map.mp hx
  exact (plain_pool y (m y hy)).1
theorem distinct_two {t x y : Int} (ho : st.op t = S "distinct") (ha : st.args t = [x, y]) (e : st.eqOf x y ≠ 0) : st.defn t = [[-t, -(st.eqOf x y)], [t, st.eqOf x y]] := by
  unfold BS.defn
  simp only [ho, ha]
  rw [if_neg (show S "distinct" ≠ S "true" by decide), if_neg (show S "distinct" ≠ S "false" by decide), if_pos trivial]
  have : st.pairs [x, y] 2 = [st.eqOf x y] := rfl
  show (let ps := st.pairs [x, y] 2; if 0 ∈ ps then _ else _) = _
  rw [this]
  show (if 0 ∈ [st.eqOf x y] then _ else _) = _
  rw [if_neg (by simpa using fun q => e q.symm)]
  rfl
theorem bool_law {t : Int} {op : Str} {is : List Int} (d : DF st t op is) (ht : st.is t ∧ st.op t = op ∧ (st.args t = is ∨ (op = S "=" ∧ ∃ x y, is = [x, y] ∧ st.args t = [y, x])) ∧ st.sort t = 0 ∧ 12 ≤ t) {e : Int} (he : op = S "distinct" → e = st.eqOf is[0]! is[1]!) :
    ((List.range 8).map (rowOf op e t is)).all (rowRight (st.letOf (atomsOf op e t is) t) t true) = true ∧ (∀ x ∈ atomsOf op e t is, 0 < x) ∧ (∀ x ∈ atomsOf op e t is, ∀ n, ∃ b, tget (rowOf op e t is n) x = some (.bool b)) ∧ ∀ n, ∃ b, tget (rowOf op e t is n) t = some (.bool b) := by
  obtain ⟨it, ho, ha, so, t12⟩ := ht
  have bt : st.boolB (.int t) = true := by
    simp only [BS.boolB, Bool.and_eq_true, decide_eq_true_eq]; exact ⟨it, so⟩
  have ft : st.op t ∈ FORMS := by rw [ho]; have := d.ops; revert this; simp only [OPS, FORMS, List.mem_cons]; rintro (h | h | h | h | h | h | h | h) <;> simp [h]
  have ev : op = S "distinct" → e ∈ [(12 : Int), 1] ∧ e ≠ t ∧ e = st.eqOf is[0]! is[1]! ∧ ∃ x y, is = [x, y] ∧ (e = 1 → x = y) := fun q => by
    obtain ⟨x, y, rfl, h⟩ := d.dist q
    have he := he q
    have z : e = st.eqOf x y := he
    refine ⟨?_, ?_, he, x, y, rfl, ?_⟩
    · rcases h with ⟨h1, h2, h3⟩ | ⟨h1, h2⟩
      · have : e = 12 := by rw [z]; unfold BS.eqOf; rw [if_neg h1, h2]
        rw [this]; decide
      · have : e = 1 := by rw [z]; unfold BS.eqOf; rw [if_pos h1]
        rw [this]; decide
    · rcases h with ⟨h1, h2, h3⟩ | ⟨h1, h2⟩
      · have : e = 12 := by rw [z]; unfold BS.eqOf; rw [if_neg h1, h2]
        omega
      · have : e = 1 := by rw [z]; unfold BS.eqOf; rw [if_pos h1]
        omega
    · rcases h with ⟨h1, h2, h3⟩ | ⟨h1, h2⟩
      · have : e = 12 := by rw [z]; unfold BS.eqOf; rw [if_neg h1, h2]
        omega
      · exact fun _ => h1
  have rk : ∀ n, RowOk (rowOf op e t is n) n t (meant op (is.map (tr n))) := fun n => by
    refine ⟨fun x hx => ?_, ?_⟩
    · unfold rowOf
      rw [tget_set, if_neg (by have := (five_le x hx).2; omega)]
      split
      · rename_i q
        obtain ⟨a, b, c, x', y', rfl, f⟩ := ev q
        rw [tget_set]
        split
        · rename_i z
          have e1 : e = 1 := by
            have := (five_le x hx).2
            simp only [List.mem_cons, List.not_mem_nil, or_false] at a
            omega
          rw [z, e1, show y' = x' from (f e1).symm]
          show some (At.bool (tr n x' == tr n x')) = _
          rw [beq_self_eq_true]; rfl
        · exact val_at n x hx
      · exact val_at n x hx
    · unfold rowOf
      rw [tget_set, if_pos rfl]
  have te : op = S "distinct" → ∀ n, tget (rowOf op e t is n) e = some (.bool (tr n is[0]! == tr n is[1]!)) := fun q n => by
    unfold rowOf
    rw [tget_set, if_neg (ev q).2.1, if_pos q, tget_set, if_pos rfl]
  have am : ∀ x, x ∈ atomsOf op e t is ↔ x = t ∨ (op = S "distinct" ∧ x = e) ∨ (op ≠ S "distinct" ∧ x ∈ is.map (fun x => (st11.plain x).1)) := fun x => by
    unfold atomsOf
    split
    · rename_i q; rw [srt_mem, ddp_mem]; simp [q]
    · rename_i q; rw [srt_mem, ddp_mem]; simp [q, or_comm]
  have pos : ∀ x ∈ atomsOf op e t is, 0 < x := fun x hx => by
    rcases (am x).mp hx with rfl | ⟨q, rfl⟩ | ⟨_, h⟩
    · omega
    · have := (ev q).1; simp only [List.mem_cons, List.not_mem_nil, or_false] at this; omega
    · exact (five_le x (one_in d.mem x h)).1
  have nd : (atomsOf op e t is).Nodup := by
    unfold atomsOf; split <;> exact srt_nodup ddp_nodup
  have tot : ∀ x ∈ atomsOf op e t is, ∀ n, ∃ b, tget (rowOf op e t is n) x = some (.bool b) := fun x hx n => by
    rcases (am x).mp hx with rfl | ⟨q, rfl⟩ | ⟨_, h⟩
    · exact ⟨_, (rk n).t⟩
    · exact ⟨_, te q n⟩
    · exact ⟨_, (rk n).v x (one_in d.mem x h)⟩
  have tin : t ∈ atomsOf op e t is := (am t).mpr (.inl rfl)
  have lines : (∀ line ∈ st.defn t, ∀ x ∈ line, x ∈ atomsOf op e t is ∨ -x ∈ atomsOf op e t is) ∧ ∀ n, ((st.defn t).all fun line => kept (rowOf op e t is n) line) = true ∧ ((st.defn t).all fun line => kept (flipT (rowOf op e t is n) t) line) = false := by
    by_cases q : op = S "distinct"
    · obtain ⟨a, b, c, x, y, rfl, f⟩ := ev q
      have ce : e = st.eqOf x y := c
      have e0 : 0 < e := pos e ((am e).mpr (.inr (.inl ⟨q, rfl⟩)))
      have ha' : st.args t = [x, y] := ha.elim id fun z => by rw [q] at z; exact absurd z.1 (by decide)
      have ein : e ∈ atomsOf op e t [x, y] := (am e).mpr (.inr (.inl ⟨q, rfl⟩))
      rw [distinct_two (by rw [ho, q]) ha' (by omega), ← ce]
      refine ⟨fun line hl z hz => ?_, fun n => ?_⟩
      · have : z = t ∨ z = -t ∨ z = e ∨ z = -e := by
          rcases List.mem_cons.mp hl with q | q
          · rw [q] at hz
            exact (List.mem_cons.mp hz).elim (fun h => .inr (.inl h)) fun h => .inr (.inr (.inr (List.mem_singleton.mp h)))
          · rw [List.mem_singleton.mp q] at hz
            exact (List.mem_cons.mp hz).elim .inl fun h => .inr (.inr (.inl (List.mem_singleton.mp h)))
        rcases this with rfl | rfl | rfl | rfl
        · exact .inl tin
        · exact .inr (by rw [Int.neg_neg]; exact tin)
        · exact .inl ein
        · exact .inr (by rw [Int.neg_neg]; exact ein)
      · have h1 := te q n
        have r := rk n
        have r' := r.flip t12
        have h2 : tget (flipT (rowOf op e t [x, y] n) t) e = some (.bool (tr n x == tr n y)) := by rw [flip_get r.t, if_neg b]; exact h1
        have mm : meant op ([x, y].map (tr n)) = (tr n x != tr n y) := by
          rw [q]; show meant (S "distinct") [tr n x, tr n y] = _
          generalize tr n x = P
          generalize tr n y = Q
          revert P Q; decide
        obtain ⟨a1, a2⟩ := lit_neg (show 0 < t by omega) r.t
        obtain ⟨b1, b2⟩ := lit_neg (show 0 < t by omega) r'.t
        obtain ⟨c1, c2⟩ := lit_neg e0 (b := tr n x == tr n y) h1
        obtain ⟨d1, d2⟩ := lit_neg e0 h2
        rw [mm] at a1 a2 b1 b2
        simp only [List.all_cons, List.all_nil, kept_any, List.any_cons, List.any_nil, a1, a2, b1, b2, c1, c2, d1, d2]
        generalize tr n x = P
        generalize tr n y = Q
        revert P Q; decide
    · refine ⟨?_, fun n => ?_⟩
      · have := lines_over (st := st) (t := t) (ok := fun x => decide (x ∈ atomsOf op e t is ∨ -x ∈ atomsOf op e t is)) d.p (decide_eq_true (.inl tin)) (decide_eq_true (.inr (by rw [Int.neg_neg]; exact tin))) (fun x hx => by
          have hi : (st11.plain x).1 ∈ atomsOf op e t is := (am _).mpr (.inr (.inr ⟨q, List.mem_map_of_mem hx⟩))
          rw [sgn_pool d.p (d.mem x hx)]
          split
          · exact ⟨decide_eq_true (.inl hi), decide_eq_true (.inr (by rw [Int.neg_neg]; exact hi))⟩
          · exact ⟨decide_eq_true (.inr (by rw [Int.neg_neg]; exact hi)), decide_eq_true (.inl (by rw [Int.neg_neg]; exact hi))⟩) ho rfl ha d.mem d.ops q d.l23 d.ite d.two
        exact fun line hl x hx => of_decide_eq_true (List.all_eq_true.mp (List.all_eq_true.mp this line hl) x hx)
      · rw [lines_mean d.p (rk n) t12 ho rfl ha d.mem d.ops q d.l23 d.ite d.two, lines_mean d.p ((rk n).flip t12) t12 ho rfl ha d.mem d.ops q d.l23 d.ite d.two]
        cases meant op (is.map (tr n)) <;> exact ⟨rfl, rfl⟩
  refine ⟨rows_right bt ft pos nd (fun line hl z => ?_) fun kv hkv => ?_, pos, tot, fun n => ⟨_, (rk n).t⟩⟩
  · rcases lines.1 line hl 0 z with h | h
    · exact absurd (pos 0 h) (by decide)
    · exact absurd (pos _ h) (by decide)
  · obtain ⟨n, _, rfl⟩ := List.mem_map.mp hkv
    obtain ⟨l1, l2⟩ := lines.2 n
    refine ⟨fun x hx => tot x hx n, ⟨_, (rk n).t⟩, fun line hl => List.all_eq_true.mp l1 line hl, fun _ => ?_⟩
    obtain ⟨line, hl, hk⟩ := List.all_eq_false.mp l2
    exact ⟨line, hl, lines.1 line hl, by simpa using hk⟩
section
variable {VB HB : List Addr} {fd : Addr} {Ls : List Int} {n : Nat}
theorem pure_base (F : Fm hb W env vars h) (s : Ws hb (fd :: a.V) HB W) (j : LS w a fd Ls st n HB h) (q' : ∀ b ∈ frA env, b ∈ HB) :
    ∃ hv, Ext hv h ∧ Ext hb hv ∧ (∀ b, b ∉ frA env → hv.get? b = h.get? b) ∧ Fm hv (fd :: HB) env vars h ∧ Bk w (fd :: HB) a st hv ∧ LS w a fd Ls st n HB hv := by
  obtain ⟨hv, r, x1, x2, t, F'⟩ := F.rebase (W' := fd :: HB) s.subP (fun b hb => .tail _ (q' b hb))
  have j' : LS w a fd Ls st n HB hv := LS.sta j fun b o nb e => ⟨nb, by rw [r b fun z => nb (q' b z)]; exact e⟩
  exact ⟨hv, x1, x2, r, F', j'.1, j'⟩
theorem Mx.checker {k : Nat} {np pos : Pos} {es : List Expr} {ds1 ds2 ds3 : List D} {b : Addr} (g : Gd w mg mb h) (hd : Dm W h) (hm : Rm A (k + 2)) (as : Es w A W env h es [.obj b, .list ds1, .list ds2, .list ds3])
    (hg : env.globals = mainGlobals := by rfl) (hk : env.scope.kind = .function := by rfl) (hl : env.kindOf (S "StepChecker") = some .globalImplicit := by rfl)
    (hs : eval (.Call (.Name (S "StepChecker") np) es [] pos) env = (do let __do_lift ← eval (.Name (S "StepChecker") np) env; callWith pos __do_lift [] (backTo pos (starEach es env)) (backToKw pos (keywordEach [] env))) := by rfl) :
    Mx w A h (eval (.Call (.Name (S "StepChecker") np) es [] pos) env) (fun v h1 => ∃ d, Ext h h1 ∧ (∃ c, d = .obj c ∧ ∀ h2, (∀ b o, h.get? b = none → h1.get? b = some o → h2.get? b = some o) → Ck h2 c b) ∧ Rd W h1 d v) :=
  Mx.call (a := 543) g (Ev.name (d := .obj 543) (Nm.global (v := .ref 543) g (by kernel_rfl) hg hk hl) rfl) (by kernel_rfl) as (fun vs h3 x3 rd => (checker_new (g.ext x3) hm (hd.ext x3) rd).imp fun v h' ⟨c, e, x, q⟩ => ⟨.obj c, x3.trans x, ⟨c, rfl, fun h2 hh => q h2 fun b o nb eb => hh b o (x3.gone nb) eb⟩, e⟩) hs
theorem Ev.andT {l r : Expr} {es : List Expr} {pos : Pos} {c : Bool} {d : D} (x : Ev w A H env h l (.bool c)) (y : c = true → Ev w A H env h (.BoolOp .And (r :: es) pos) d) (z : c = false → d = .bool false) : Ev w A H env h (.BoolOp .And (l :: r :: es) pos) d := fun s Q E ee k =>
  BoolOp_and (x s _ E ee fun v h1 tk x1 r1 => truthD (d := .bool c) (w := w) (A := A) rfl r1 _ _ E (Ext.refl _) fun c' h2 tk2 x2 e2 => by
    subst e2
    cases c' with
    | true => rw [if_pos rfl]; exact y rfl _ Q E (ee.trans (x1.trans x2)) fun v h3 tk3 x3 r3 => k v h3 tk3 (x1.trans (x2.trans x3)) r3
    | false => rw [if_neg (by decide)]; exact k v h2 tk2 (x1.trans x2) (z rfl ▸ r1.ext x2))
theorem lt_s {P : Nat → Prop} {n : Nat} (a : ∀ k, k < n → P k) (b : P n) (k : Nat) (h : k < n + 1) : P k :=
  (Nat.lt_or_eq_of_le (Nat.le_of_lt_succ h)).elim (a k) fun e => e ▸ b
theorem lt3 {P : Nat → Prop} (a : P 0) (b : P 1) (c : P 2) {k : Nat} (h : k < 3) : P k := lt_s (lt_s (lt_s (fun k h => absurd h (Nat.not_lt_zero k)) a) b) c k h
theorem fine_two : ∀ x ∈ five, ∀ y ∈ five, ∀ t ∈ [(1 : Int), 12, 13], setFine [x, y, t] = true := by decide +kernel
theorem fine_three : ∀ x ∈ five, ∀ y ∈ five, ∀ z ∈ five, setFine [x, y, z, 12] = true := by decide +kernel
theorem DF.fine {t : Int} {op : Str} {is : List Int} (d : DF st t op is) : setFine (is.map (fun x => (st11.plain x).1) ++ [t]) = true := by
  have m := one_in d.mem
  have l := d.l23
  have tv := d.tv
  have t1 : t = 1 → is.length = 2 := fun e => by
    rcases d.top with ⟨_, _, _, _, q⟩ | ⟨_, q, _⟩
    · omega
    · exact d.two (by rw [q]; decide) (by rw [q]; decide) (by rw [q]; decide)
  rcases Mine.l23 l with ⟨x, y, e⟩ | ⟨x, y, z, e⟩
  · have tm : t ∈ [(1 : Int), 12, 13] := by
      rcases tv with q | q | ⟨q, _⟩
      · rw [q]; exact .head _
      · rw [q]; exact .tail _ (.head _)
      · rw [q]; exact .tail _ (.tail _ (.head _))
    rw [e] at m ⊢
    exact fine_two _ (m _ (.head _)) _ (m _ (.tail _ (.head _))) t tm
  · have n2 : is.length ≠ 2 := by rw [e]; exact (by decide : (3 : Nat) ≠ 2)
    have t12 : t = 12 := by
      rcases tv with q | q | ⟨_, q⟩
      · exact absurd (t1 q) n2
      · exact q
      · exact absurd q n2
    rw [e] at m ⊢
    rw [t12]
    exact fine_three _ (m _ (.head _)) _ (m _ (.tail _ (.head _))) _ (m _ (.tail _ (.tail _ (.head _))))
theorem fine_dist : ∀ t ∈ [(12 : Int), 13], ∀ e ∈ [(1 : Int), 12], setFine [t, e] = true := by decide +kernel
end
section
variable {VB HB W0 : List Addr} {fd : Addr} {Ls : List Int} {n : Nat}
theorem lk593 : (KF w.params).lookup 593 = some o593 := by kernel_rfl
noncomputable abbrev eB (L0 : Addr) : Env := envOfC (S "_law_is_boolean_right") (dScope (top 23)) L0 593 (.ref 592)
theorem clauses_lits {atoms : List Int} : ∀ {f : List (List Int)}, (∀ cl ∈ atoms.foldl clausesStep f, ∀ x ∈ cl, (∃ g ∈ f, x ∈ g) ∨ x ∈ atoms ∨ -x ∈ atoms) := by
  induction atoms with
  | nil => exact fun cl h x hx => .inl ⟨cl, h, hx⟩
  | cons y r ih =>
    intro f cl h x hx
    rw [List.foldl_cons] at h
    rcases ih cl h x hx with ⟨g, hg, q⟩ | q | q
    · unfold clausesStep at hg
      rcases List.mem_append.mp hg with hg | hg
      · rcases List.mem_append.mp hg with hg | hg
        · exact .inl ⟨g, hg, q⟩
        · obtain ⟨g', h', rfl⟩ := List.mem_map.mp hg
          rcases List.mem_append.mp q with q | q
          · exact .inl ⟨g', h', q⟩
          · exact .inr (.inl (by rw [List.mem_singleton.mp q]; exact .head _))
      · obtain ⟨g', h', rfl⟩ := List.mem_map.mp hg
        rcases List.mem_append.mp q with q | q
        · exact .inl ⟨g', h', q⟩
        · exact .inr (.inr (by rw [List.mem_singleton.mp q, Int.neg_neg]; exact .head _))
    · exact .inr (.inl (.tail _ q))
    · exact .inr (.inr (.tail _ q))
theorem let_lits {t : Int} {atoms : List Int} (pos : ∀ x ∈ atoms, 0 < x) : ∀ cl ∈ st.letOf atoms t, ∀ x ∈ cl, (if x < 0 then -x else x) ∈ atoms := fun cl hcl x hx => by
  rcases clauses_lits (f := [[]]) cl (List.mem_filter.mp hcl).1 x hx with ⟨g, hg, q⟩ | q | q
  · rw [List.mem_singleton.mp hg] at q; exact absurd q List.not_mem_nil
  · rw [if_neg (by have := pos x q; omega)]; exact q
  · rw [if_pos (by have := pos _ q; omega)]; exact q
theorem ddp_len : ∀ {l : List Int}, (ddp l).length ≤ l.length
  | [] => Nat.le_refl _
  | x :: r => by
    unfold ddp
    have := ddp_len (l := r)
    split <;> simp <;> omega
theorem srt_len {l : List Int} : (srt l).length = l.length := List.length_mergeSort l
theorem defn_len {t : Int} : ∀ line ∈ st.defn t, line.length ≤ (st.args t).length * (st.args t).length + (st.args t).length + 3 := by
  have pl := BS.pairs_len (st := st) (some := st.args t) (n := (st.args t).length)
  generalize hn : (st.args t).length = m at pl
  have hm : ((st.args t).map st.signed).length = m := by rw [List.length_map, hn]
  unfold BS.defn linesOf BS.distinctDef
  dsimp only
  rw [hn]
  generalize (st.args t).map st.signed = ends at hm
  generalize st.pairs (st.args t) m = ps at pl
  generalize m * m = q at pl
  repeat' split
  all_goals simp only [List.forall_mem_append, List.forall_mem_cons, List.forall_mem_map, List.length_cons, List.length_nil, List.length_map, List.not_mem_nil, false_implies, implies_true, and_true]
  all_goals (first | omega | (refine ⟨fun _ _ => ?_, ?_⟩ <;> omega) | (intro _ _; omega))
theorem dictLit2 {k1 k2 v1 v2 : Expr} {pos : Pos} {i1 i2 : Int} {a1 a2 : At} (g : Gd w mg mb h) (hk1 : Ev w A W env h k1 (.int i1)) (hv1 : Ev w A W env h v1 a1.d) (hk2 : Ev w A W env h k2 (.int i2)) (hv2 : Ev w A W env h v2 a2.d) :
    ∀ (s : Shared) (Q : Value → Shared → Prop) (E : Value → Shared → Prop), s.heap = h → (∀ l h' tk, h.get? l = none → Ext h h' → Tab h' l (tmerge [] [(i1, a1), (i2, a2)]) → Q (.ref l) { s with heap := h', toks := tk }) → wpAny (model prg w) A (eval (.Dict [some k1, some k2] [v1, v2] pos) env) Q E s :=
  dictLit (ps := [(eval k1 env, (do let x ← eval v1 env; standAt pos; pure x)), (eval k2 env, (do let x ← eval v2 env; standAt pos; pure x))]) g (Pv.cons hk1 hv1 (Pv.cons hk2 hv2 (by exact True.intro))) (by simp) (by simp)
theorem fault_one : st11.fault [1] (.int 1) = S "" ∧ st11.fault [-1] (.int 1) = S "define" := by
  have b : st11.boolB (.int 1) = true ∧ st11.op 1 ∈ FORMS := by decide +kernel
  have d : st11.defn 1 = [[1]] := by unfold BS.defn; simp only [show st11.op 1 = S "true" by decide +kernel]; rfl
  have l1 : st11.lets [1] 1 = true := by unfold BS.lets; rw [d]; show (decide (srt [1] = srt [1]) || false) = true; simp
  have l2 : st11.lets [-1] 1 = false := by unfold BS.lets; rw [d]; show (decide (srt [1] = srt [-1]) || false) = false; unfold srt; simp
  constructor
  · show (if _ then _ else _) = _; rw [if_pos l1]
  · show (if _ then _ else _) = _; rw [if_neg (by rw [l2]; decide)]
theorem sh_one : st11.Sh 1 ∧ ∀ line ∈ st11.defn 1, line.length < 64 := by
  have o : st11.op 1 = S "true" := by decide +kernel
  have ar : st11.args 1 = [] := by decide +kernel
  refine ⟨⟨(pool_ok 1 (by decide)).1, by rw [ar]; decide, by rw [ar]; simp, fun q => absurd o q, fun q => by rw [o] at q; exact absurd q (by decide), fun q => absurd o q⟩, ?_⟩
  have d : st11.defn 1 = [[1]] := by unfold BS.defn; simp only [o]; rfl
  rw [d]; simp
theorem inj_pair : ∀ a b, pairD a = pairD b → a = b := fun (a1, a2) (b1, b2) e => by unfold pairD at e; injection e with e; injection e with e1 e; injection e with e2 e; injection e1 with e1; injection e2 with e2; cases e1; cases e2; rfl
noncomputable abbrev VQ (is : List Int) (op : Str) (t : Int) (b : Addr) : List (Str × D) := [(S "ends", .list (is.map .int)), (S "op", .str op), (S "t", .int t), (S "consts", .list ([3, 4, 5].map .int)), (S "bank_now", .obj b)]
noncomputable abbrev VP (is : List Int) (op : Str) (t : Int) (c b : Addr) : List (Str × D) := (S "plain", .list ((is.map st11.plain).map pairD)) :: (S "checker_now", .obj c) :: VQ is op t b
noncomputable abbrev VR (is : List Int) (op : Str) (eq t : Int) (c b : Addr) : List (Str × D) := (S "atoms", .list ((atomsOf op eq t is).map .int)) :: VP is op t c b
theorem boolean_fn {vs : List Value} (g : Gd w mg mb hb) (e : Ext hb h) (hm : Rm A 9) (ws : Ws hb (fd :: a.V) HB W0) (dm : Dm W0 h) (j : LS w a fd Ls st8 n HB h) (hn : n ≤ 50) (rd : RdAll W0 h [.obj fd, .obj a.b, .list ([3, 4, 5].map .int)] vs) :
    Mx w A h (PySem.call (.ref 593) vs) (fun v h' => v = .bool true ∧ ∃ st' n', (∃ t op is, Drawn st' t op is) ∧ n' ≤ n + 5 ∧ Mv (fd :: a.V) h h' ∧ LS w a fd Ls st' n' HB h') := by
  refine Mx.enter (ps := [S "feed", S "bank_now", S "consts"]) (H := W0) (h0 := hb) (k := 8) g e hm dm rd lk593 (by kernel_rfl) (args3 fun _ _ _ => rfl) rfl (fun n => rfl) (by decide) rfl rfl rfl (fun L0 A' h1 r F x1 fr => ?_)
  conv => arg 7; whnf
  refine Xs.hide fun PN PR kn kr => ?_
  have L := Lx.enter (J := LS w a fd Ls st8 n) LS.sta ws dm j x1 fr F
  generalize hHB : frA (eB L0) ++ HB = HB' at L
  generalize hW : frA (eB L0) ++ W0 = W at L
  have fHB : ∀ b ∈ frA (eB L0), b ∈ HB' := fun b hb => hHB ▸ List.mem_append_left _ hb
  have g1 := g.ext L.X.F.ext
  refine Lx.unpackT (xs := [(S "t", _), (S "op", _), (S "ends", _)]) (P := fun ds J' => ∃ st' t op is n', Drawn st' t op is ∧ n' ≤ n + 5 ∧ ds = [.int t, .str op, .list (is.map .int)] ∧ J' = LS w a fd Ls st' n') (fun d J' p => by obtain ⟨_, _, _, _, _, _, _, _, rfl⟩ := p; exact LS.sta) L r.hd
    (Mx.call (a := 566) g1 (Ev.fn (H := W) g1 (by kernel_rfl)) (by kernel_rfl) (.cons L.X.F.var (.cons L.X.F.var (.cons L.X.F.var .nil rfl) rfl) rfl) (fun vs h3 x3 rd => (drawn_fn (HB := HB') g (L.X.F.ext.trans x3) (r.le (by decide)) L.ws (L.X.F.dm.ext x3) (LS.sta L.j (To.ext x3)) hn rd).imp fun v h' p => ?_)) (fun ds J' h2 p L2 => ?_) (all3 rfl rfl rfl) rfl
  · obtain ⟨st', t, op, is, n', dr, hn', m, j', rv⟩ := p
    exact ⟨_, _, ⟨st', t, op, is, n', dr, hn', rfl, rfl⟩, rfl, x3.mv.trans m, j', rv⟩
  obtain ⟨st', t, op, is, n', dr, hn', rfl, rfl⟩ := p
  have df := dr.df
  have g2 := g.ext L2.X.F.ext
  refine Xx.asgX (Fx.of L2.X.F) (Mx.checker (k := 6) g2 L2.X.F.dm (r.le (by decide)) (.cons L2.X.F.var (.cons (Ev.list L2.X.F.dm (.cons Ev.int (.cons L2.X.F.var .nil rfl) rfl)) (.cons (Ev.list L2.X.F.dm .nil) (.cons (Ev.list L2.X.F.dm .nil) .nil rfl) rfl) rfl) rfl)) fun d h3 h4 p x3 m4 X4 => ?_
  obtain ⟨c, rfl, hc⟩ := p
  have fW : ∀ b ∈ frA (eB L0), h2.get? b ≠ none := fun b hb => L2.X.F.dm b (L2.X.F.inW b hb)
  have j4 : LS w a fd Ls st' n' HB' h4 := LS.sta L2.j fun b o nb eb => ⟨nb, m4.off b o (fun z => nb (fHB b z)) (x3 b o eb)⟩
  obtain ⟨hv, xv, xb, off, Fv, bk, jv⟩ := pure_base X4.F L2.ws j4 fHB
  have ck : Ck hv c a.b := hc hv fun b o nb eb => by
    have nf : b ∉ frA (eB L0) := fun z => fW b z nb
    rw [off b nf]; exact m4.off b o nf eb
  have gv := g.ext xb
  have X5 := (Fx.of Fv).pick (vs := ((S "checker_now", .obj c) :: VQ is op t a.b)) ⟨rfl, rfl, rfl, rfl, rfl, rfl, trivial⟩
  have fin : ∀ {h' : Heap}, Ext hv h' → ∃ st' n', (∃ t op is, Drawn st' t op is) ∧ n' ≤ n + 5 ∧ Mv (fd :: a.V) h h' ∧ LS w a fd Ls st' n' HB h' := fun {h'} x => by
    refine ⟨st', n', ⟨t, op, is, dr⟩, hn', ?_, LS.sta jv fun b o nb eb => ⟨fun z => nb (hHB ▸ List.mem_append_right _ z), x b o eb⟩⟩
    have m2 : Mv (fd :: a.V) h h2 := L2.leave x1 fr
    intro b o eb
    obtain ⟨o2, e2, q2⟩ := m2 b o eb
    have nf : b ∉ frA (eB L0) := fun z => by rw [fr b z] at eb; cases eb
    exact ⟨o2, x b o2 (by rw [off b nf]; exact m4.off b o2 nf (x3 b o2 e2)), q2⟩
  clear L L2 X4 j4 hc m4 x3 fW jv rd
  generalize hW' : fd :: HB' = W' at *
  have l60 : is.length ≤ 60 := by have := df.l23; omega
  refine Xx.asgG (ι := D.int) (l := is) (p := fun _ => true) (f := fun x => pairD (st11.plain x)) (xs := [S "one"]) (pt := fun b => [D.int b]) inj_int X5 (Src.list r.hd X5.F.var) (fun C I H' b hb hC => Binds.name rfl rfl hC) (fun C H' b h₂ hb x mo F' => noTest (b := true)) (fun C H' b h₂ hb hp x mo F' => ?_) (by omega) (fun h6 X6 => ?_)
  · rw [← pln_pool df.p (df.mem b hb)]
    exact Ev.call (gv.ext F'.ext) r (Ev.fn (gv.ext F'.ext) (by kernel_rfl)) (by kernel_rfl) (.cons F'.var (.cons F'.var .nil rfl) rfl) ((plain_fn (gv.ext F'.ext) F'.dm (bk.in_ F'.ext fun b hb => (mo b hb).imp id fun z => xv.gone z) df.p.wf (df.p.pool b (df.mem b hb)).1).le (by decide))
  rw [filter_all] at X6
  have g6 := gv.ext X6.F.ext
  have b6 := bk.in_ X6.F.ext (fun b hb => .inl hb)
  have pr : (is.map fun x => pairD (st11.plain x)) = (is.map st11.plain).map pairD := by rw [List.map_map]; rfl
  rw [pr] at X6
  refine Xx.asg (d := .list ((srt (ddp (is.map (fun x => (st11.plain x).1) ++ [t]))).map .int)) X6 (Ev.sortedSet g6 X6.F.dm r.hd (Ev.cast (Ev.bin (Ev.lcG (ι := pairD) (l := is.map st11.plain) (p := fun _ => true) (g := fun b => .int b.1) (xs := [S "one", S "side"]) (pt := fun b => [.int b.1, .bool b.2]) inj_pair X6.F (Src.list r.hd X6.F.var) (fun C I H' b hb hC => ?_) (fun C H' b h₂ hb x mo F' => noTest (b := true)) (fun C H' b h₂ hb hp x mo F' => F'.var) (by rw [List.length_map]; omega)) (Ev.list X6.F.dm (.cons X6.F.var .nil rfl)) (Bin.cat X6.F.dm ?_)) ?_) ?_ df.fine) fun h7 X7 => ?_
  · exact Binds.tup (xs := [(S "one", _), (S "side", _)]) r.hd rfl hC rfl (all2 rfl rfl) (by decide) rfl rfl
  · rw [filter_all]; simp only [List.length_map]; simp; omega
  · rw [filter_all]; simp
  · simp; have := df.l23; omega
  have X7 := X7.pick (vs := ((S "atoms", .list ((srt (ddp (is.map (fun x => (st11.plain x).1) ++ [t]))).map .int)) :: VP is op t c a.b)) ⟨rfl, rfl, rfl, rfl, rfl, rfl, rfl, rfl, trivial⟩
  have pi : ∀ i, i < is.length → is[i]! ∈ pool := fun i hi => by rw [getElem!_pos is i hi]; exact df.mem _ (List.getElem_mem _)
  have ev : op = S "distinct" → ∃ x y, is = [x, y] ∧ x ∈ pool ∧ y ∈ pool ∧ (x ≠ y → numOf st'.ts (BS.eqK x y) ≠ 0) ∧ (st'.eqOf x y ∈ [(1 : Int), 12]) ∧ t ∈ [(12 : Int), 13] := fun q => by
    obtain ⟨x, y, rfl, hh⟩ := df.dist q
    refine ⟨x, y, rfl, pi 0 (by simp), pi 1 (by simp), fun ne => ?_, ?_, ?_⟩
    · rcases hh with ⟨_, q, _⟩ | ⟨q, _⟩
      · rw [q]; decide
      · exact absurd q ne
    · unfold BS.eqOf
      rcases hh with ⟨q1, q, _⟩ | ⟨q, _⟩
      · rw [if_neg q1, q]; decide
      · rw [if_pos q]; decide
    · rcases hh with ⟨_, _, q⟩ | ⟨_, q⟩ <;> rw [q] <;> decide
  refine Xx.if1 (b := op == S "distinct") (PN' := fun h8 => Fx h4 (frA (eB L0)) hv W' (eB L0) ((S "atoms", .list ((atomsOf op (st'.eqOf is[0]! is[1]!) t is).map .int)) :: VP is op t c a.b) [] h8) X7 (Et.cmp X7.F.var Ev.str Cm.eqS) (fun z h8 X8 => ?_) (fun z h8 X8 => ?_) fun h8 X8 => ?_
  · have q : op = S "distinct" := beq_iff_eq.mp z
    obtain ⟨x, y, rfl, px, py, nz, em, tm⟩ := ev q
    have g8 := gv.ext X8.F.ext
    have b8 := bk.in_ X8.F.ext (fun b hb => .inl hb)
    obtain ⟨ix, sx, _, _⟩ := df.p.pool x px
    obtain ⟨iy, sy, _, _⟩ := df.p.pool y py
    refine Xx.asg (d := .list ((srt (ddp [t, st'.eqOf x y])).map .int)) X8 (Ev.sortedSet (ns := [t, st'.eqOf x y]) g8 X8.F.dm r.hd (Ev.list X8.F.dm (.cons X8.F.var (.cons (Ev.meth g8 r X8.F.var b8.ob.ob (.cons (Ev.itemL (k := 0) (ds := [x, y].map .int) X8.F.var Ev.int (by decide) rfl (by decide)) (.cons (Ev.itemL (k := 1) (ds := [x, y].map .int) X8.F.var Ev.int (by decide) rfl (by decide)) .nil rfl) rfl) ((eqMade_fn g8 X8.F.dm b8 ix iy (sy.trans sx.symm) nz).le (by decide)) rfl (by kernel_rfl)) .nil rfl) rfl)) (by simp) (fine_dist t tm _ em)) fun h9 X9 => Xs.nil ?_
    have : atomsOf op (st'.eqOf [x, y][0]! [x, y][1]!) t [x, y] = srt (ddp [t, st'.eqOf x y]) := by unfold atomsOf; rw [if_pos q]; rfl
    rw [this]
    exact X9.pick ⟨rfl, rfl, rfl, rfl, rfl, rfl, rfl, rfl, trivial⟩
  · have q : op ≠ S "distinct" := fun e => by rw [e] at z; exact absurd z (by decide)
    have : atomsOf op (st'.eqOf is[0]! is[1]!) t is = srt (ddp (is.map (fun x => (st11.plain x).1) ++ [t])) := by unfold atomsOf; rw [if_neg q]
    rw [this]
    exact X8
  generalize hE : st'.eqOf is[0]! is[1]! = eq at X8
  have g8 := gv.ext X8.F.ext
  have b8 := bk.in_ X8.F.ext (fun b hb => .inl hb)
  have it : st'.is t := by
    rcases df.top with q | ⟨q, _, e⟩
    · exact q.1
    · rw [q, e]; exact (pool_ok 1 (by decide)).1
  refine Xs.iff (b := st'.op t != op) (Et.cmp (Ev.meth g8 r X8.F.var b8.ob.ob (.cons X8.F.var .nil rfl) ((op_fn g8 X8.F.dm b8 it).le (by decide)) rfl (by kernel_rfl)) X8.F.var Cm.neS) (fun z h9 x9 => ?_) (fun z h9 x9 => ?_)
  · have : t = 1 ∧ op = S "=" ∧ st' = st11 := by
      rcases df.top with q | q
      · rw [q.2.1] at z; simp at z
      · exact q
    obtain ⟨rfl, rfl, rfl⟩ := this
    have F9 := X8.F.up x9
    have g9 := gv.ext F9.ext
    have b9 := bk.in_ F9.ext (fun b hb => .inl hb)
    have c9 := ck.ext F9.ext
    obtain ⟨m1, m2, m3, ob⟩ := c9.ob
    have sh : ∀ t : Int, D.int 1 = .int t → st11.boolB (.int 1) = true → st11.op t ∈ FORMS → st11.Sh t ∧ ∀ line ∈ st11.defn t, line.length < 64 := fun t e _ _ => by cases e; exact sh_one
    refine Xs.retD (d := .bool true) (Ev.andT (c := true) (Ev.cast (Ev.cmp (Ev.meth g9 r F9.var b9.ob.ob (.cons F9.var .nil rfl) ((op_fn g9 F9.dm b9 it).le (by decide)) rfl (by kernel_rfl)) Ev.str Cm.eqS) (by rw [show st11.op 1 = S "true" by decide +kernel]; rfl)) (fun _ => Ev.and2 (a := .bool true) (c := true) (Ev.cast (Ev.cmp (Ev.meth g9 r F9.var ob (.cons (Ev.list F9.dm (.cons F9.var .nil rfl)) (.cons F9.var .nil rfl) rfl) ((fault_fn (some := [1]) (d := .int 1) g9 F9.dm b9 c9 df.p.wf (.inl ⟨_, rfl⟩) (by decide) sh).le (by decide)) rfl (by kernel_rfl)) Ev.str Cm.eqS) (by rw [fault_one.1]; rfl)) rfl (fun _ => Ev.cast (Ev.cmp (Ev.meth g9 r F9.var ob (.cons (Ev.list F9.dm (.cons (Ev.neg F9.var) .nil rfl)) (.cons F9.var .nil rfl) rfl) ((fault_fn (some := [-1]) (d := .int 1) g9 F9.dm b9 c9 df.p.wf (.inl ⟨_, rfl⟩) (by decide) sh).le (by decide)) rfl (by kernel_rfl)) Ev.str Cm.eqS) (by rw [fault_one.2]; rfl)) (fun q => nomatch q)) (fun q => nomatch q)) fun v h' x rv => kr _ _ ⟨rv, fin (F9.ext.trans x)⟩
  have top : st'.is t ∧ st'.op t = op ∧ (st'.args t = is ∨ (op = S "=" ∧ ∃ x y, is = [x, y] ∧ st'.args t = [y, x])) ∧ st'.sort t = 0 ∧ 12 ≤ t := by
    rcases df.top with q | ⟨q1, q2, q3⟩
    · exact q
    · subst q1 q2 q3
      rw [show st11.op 1 = S "true" by decide +kernel] at z; exact absurd z (by decide)
  have X9 := X8.up x9
  refine Xx.newList X9 fun l h10 ln X10 => ?_
  refine Xx.forIn (B := fun d => [(S "number", d)]) (vs := fun i => ((S "rows", .obj l) :: VR is op eq t c a.b))
    (oo := fun i => [(l, .list ((List.range i).map fun k => D.tab (rowOf op eq t is k)))]) X10 (Src.rangeN (n := 8) (gv.ext X10.F.ext) r.hd (Ev.cast (Ev.bin Ev.int (Ev.callN (gv.ext X10.F.ext) (by kernel_rfl) (by kernel_rfl) (.cons X10.F.var .nil rfl) (CB.lenL (by decide))) (Bin.pow (by decide) (by decide) (by decide))) rfl) (by decide) (by kernel_rfl) (by kernel_rfl)) Tg.name ⟨rfl, rfl, rfl, rfl, rfl, rfl, rfl, rfl, rfl, trivial⟩ rfl (fun i => rfl) ?_ ?_
  · intro I i d h11 nI hd X11
    refine Xs.hideN fun PN kn => ?_
    obtain ⟨hi, rfl⟩ := range_get hd
    have g11 := gv.ext X11.F.ext
    have nW : ∀ b, b ∈ I :: l :: W' → b ∈ W' ∨ hv.get? b = none := new_cons (new_cons (fun b hb => .inl hb) (X9.F.ext.gone ln)) (X10.F.ext.gone nI)
    have b11 := bk.in_ X11.F.ext nW
    refine Xx.ownDict X11 (dictLit2 (i1 := 1) (a1 := .bool true) (i2 := 2) (a2 := .bool false) g11 (Ev.meth g11 r X11.F.var b11.ob.ob (.cons Ev.cbool .nil rfl) ((bool_fn g11 X11.F.dm b11).le (by decide)) rfl (by kernel_rfl)) Ev.cbool (Ev.meth g11 r X11.F.var b11.ob.ob (.cons Ev.cbool .nil rfl) ((bool_fn g11 X11.F.dm b11).le (by decide)) rfl (by kernel_rfl)) Ev.cbool) fun dd h12 dn X12 => ?_
    have e0 : tmerge [] [((1 : Int), At.bool true), (2, .bool false)] = rowK i 0 := rfl
    rw [e0] at X12
    refine Xx.forIn (B := fun d => [(S "k", d)]) (vs := fun _ => ((S "truth_of", .obj dd) :: (S "number", .int i) :: (S "rows", .obj l) :: VR is op eq t c a.b))
      (oo := fun k => [(dd, .dict (rowK i k)), (l, .list ((List.range i).map fun k => D.tab (rowOf op eq t is k)))]) X12 (Src.rangeN (n := 3) (gv.ext X12.F.ext) r.hd (Ev.cast (Ev.callN (gv.ext X12.F.ext) (by kernel_rfl) (by kernel_rfl) (.cons X12.F.var .nil rfl) (CB.lenL (by decide))) rfl) (by decide) (by kernel_rfl) (by kernel_rfl)) Tg.name ⟨rfl, rfl, rfl, rfl, rfl, rfl, rfl, rfl, rfl, rfl, rfl, trivial⟩ rfl (fun i => rfl) ?_ ?_
    · intro I2 k d2 h13 nI2 hd2 X13
      refine Xs.hideN fun PN kn => ?_
      obtain ⟨hk, rfl⟩ := range_get hd2
      have nz2 : ((2 : Int) ^ (k : Int).toNat) ≠ 0 ∧ ((2 : Int) ^ (k : Int).toNat).natAbs < 1073741824 ∧ (2 : Int) ^ (k : Int).toNat = (2 ^ k : Nat) := by
        have : ∀ k : Nat, k < 3 → ((2 : Int) ^ (k : Int).toNat) ≠ 0 ∧ ((2 : Int) ^ (k : Int).toNat).natAbs < 1073741824 ∧ (2 : Int) ^ (k : Int).toNat = (2 ^ k : Nat) := by decide
        exact this k hk
      refine Xx.setItem (a := .bool (bit i k)) (k := 3 + k) X13 (Ev.cast (Ev.cmp (Ev.bin (Ev.bin X13.F.var (Ev.bin Ev.int X13.F.var (Bin.pow (by omega) (by omega) (by decide))) (Bin.fdiv nz2.1 nz2.2.1)) Ev.int (Bin.mod (by decide))) Ev.int Cm.eqI) ?_) X13.F.var (Ev.itemL (k := k) (ds := [3, 4, 5].map .int) X13.F.var X13.F.var (by omega) ?_ (by omega)) ?_ fun h14 X14 => ?_
      · rw [nz2.2.2]; rfl
      · exact lt3 (P := fun k => (([3, 4, 5] : List Int).map D.int)[(k : Int).toNat]? = some (.int (3 + k))) rfl rfl rfl hk
      · exact Nat.le_trans (List.length_take_le _ _) (by omega)
      · rw [lt3 (P := fun k => tset (rowK i k) (3 + k) (.bool (bit i k)) = rowK i (k + 1)) rfl rfl rfl hk] at X14
        exact Xs.nil (kn _ (turn0 X14 ⟨rfl, rfl, rfl, rfl, rfl, rfl, rfl, rfl, rfl, rfl, rfl, trivial⟩))
    · intro h13 X13
      rw [List.length_map, List.length_range] at X13
      have g13 := gv.ext X13.F.ext
      have tab := (X13.own _ (.head _)).1.1
      refine Xx.asgG (ι := pairD) (l := is.map st11.plain) (p := fun _ => true) (f := fun b => .bool (val i b.1 == b.2)) (xs := [S "one", S "side"]) (pt := fun b => [.int b.1, .bool b.2]) inj_pair X13 (Src.list r.hd X13.F.var) (fun C I H' b hb hC => ?_) (fun C H' b h₂ hb x mo F' => noTest (b := true)) (fun C H' b h₂ hb hp x mo F' => ?_) (by rw [List.length_map]; omega) (fun h14 X14 => ?_)
      · exact Binds.tup (xs := [(S "one", _), (S "side", _)]) r.hd rfl hC rfl (all2 rfl rfl) (by decide) rfl rfl
      · obtain ⟨x', hx', rfl⟩ := List.mem_map.mp hb
        exact Ev.cmp (Ev.dictGet (a := .bool _) F'.var (tab.at fun o q => x _ o q) F'.var (val_at i _ (plain_pool x' (df.mem x' hx')).1)) F'.var Cm.eqB
      have tl : ((is.map st11.plain).filter fun _ => true).map (fun b => D.bool (val i b.1 == b.2)) = (is.map (tr i)).map .bool := by rw [List.filter_eq_self.mpr fun _ _ => rfl, List.map_map, List.map_map]; rfl
      rw [tl] at X14
      have X14 := X14.pick (vs := ((S "truths", .list ((is.map (tr i)).map .bool)) :: (S "truth_of", .obj dd) :: (S "rows", .obj l) :: VR is op eq t c a.b)) ⟨rfl, rfl, rfl, rfl, rfl, rfl, rfl, rfl, rfl, rfl, rfl, trivial⟩
      have bl : ∀ k, k < is.length → (is.map (tr i))[k]! = tr i is[k]! := fun k hk => by rw [getElem!_pos (is.map (tr i)) k (by simpa using hk), getElem!_pos is k hk]; simp
      refine Xx.if1 (b := op == S "distinct") (PN' := fun h15 => Fx h11 (dd :: l :: frA (eB L0)) hv (dd :: I :: l :: W') (eB L0) ((S "truths", .list ((is.map (tr i)).map .bool)) :: (S "truth_of", .obj dd) :: (S "rows", .obj l) :: VR is op eq t c a.b) [(dd, .dict (if op = S "distinct" then tset (rowK i 3) eq (.bool (tr i is[0]! == tr i is[1]!)) else rowK i 3)), (l, .list ((List.range i).map fun k => D.tab (rowOf op eq t is k)))] h15) X14 (Et.cmp X14.F.var Ev.str Cm.eqS) (fun z h15 X15 => ?_) (fun z h15 X15 => ?_) fun h15 X15 => ?_
      · have q : op = S "distinct" := beq_iff_eq.mp z
        have bl0 := bl 0 (by have := df.l23; omega)
        have bl1 := bl 1 (by have := df.l23; omega)
        obtain ⟨x, y, rfl, px, py, nz, em, tm⟩ := ev q
        have g15 := gv.ext X15.F.ext
        have b15 := bk.in_ X15.F.ext (new_cons nW (X11.F.ext.gone dn))
        obtain ⟨ix, sx, _, _⟩ := df.p.pool x px
        obtain ⟨iy, sy, _, _⟩ := df.p.pool y py
        rw [if_pos q]
        refine Xx.setItem (a := .bool _) (k := eq) X15 (Ev.cast (Ev.cmp (Ev.boolAt (k := 0) X15.F.var Ev.int (by simp) (by simp)) (Ev.boolAt (k := 1) X15.F.var Ev.int (by simp) (by simp)) Cm.eqB) (by rw [bl0, bl1]; rfl)) X15.F.var (Ev.cast (Ev.meth g15 r X15.F.var b15.ob.ob (.cons (Ev.itemL (k := 0) (ds := [x, y].map .int) X15.F.var Ev.int (by decide) rfl (by decide)) (.cons (Ev.itemL (k := 1) (ds := [x, y].map .int) X15.F.var Ev.int (by decide) rfl (by decide)) .nil rfl) rfl) ((eqMade_fn g15 X15.F.dm b15 ix iy (sy.trans sx.symm) nz).le (by decide)) rfl (by kernel_rfl)) (congrArg D.int hE)) ?_ fun h16 X16 => Xs.nil X16
        exact Nat.le_trans (List.length_take_le _ _) (by omega)
      · have q : op ≠ S "distinct" := fun e => by rw [e] at z; exact absurd z (by decide)
        rw [if_neg q]; exact X15
      have g15 := gv.ext X15.F.ext
      have kl : (if op = S "distinct" then tset (rowK i 3) eq (.bool (tr i is[0]! == tr i is[1]!)) else rowK i 3).length ≤ 6 := by
        have l5 : (rowK i 3).length ≤ 5 := Nat.le_of_eq rfl
        split
        · exact Nat.le_trans tset_len (by omega)
        · omega
      refine Xx.setItem (a := .bool (meant op (is.map (tr i)))) (k := t) X15 (Ev.call g15 r (Ev.fn g15 (by kernel_rfl)) (by kernel_rfl) (.cons X15.F.var (.cons X15.F.var .nil rfl) rfl) ((meant_fn g15 X15.F.dm (by rw [List.length_map]; omega) (fun _ _ => by rw [List.length_map]; have := df.l23; omega) (fun q => by rw [List.length_map]; have := df.ite q; omega) df.ops).le (by decide))) X15.F.var X15.F.var (by omega) fun h16 X16 => ?_
      have X17 := Fx.freezeD (x := S "truth_of") X16 rfl (fun z => X11.F.dm _ z dn) dn X11.inV X11.vW (fun p hp => by rw [List.mem_singleton.mp hp]; exact .head _)
      refine Xx.append (d := .tab (rowOf op eq t is i)) X17 X17.F.var X17.F.var (by simp; omega) fun h18 X18 => ?_
      refine Xs.nil (kn _ ?_)
      show ∃ N vars', _ ∧ Fx _ _ _ _ _ _ [(l, .list ((List.range (i + 1)).map fun k => D.tab (rowOf op eq t is k)))] _ ∧ _
      rw [List.range_succ, List.map_append]
      exact turn0 X18 ⟨rfl, rfl, rfl, rfl, rfl, rfl, rfl, rfl, rfl, trivial⟩
  · intro h11 X11
    rw [List.length_map, List.length_range] at X11
    have X12 := Fx.freezeL (x := S "rows") X11 rfl (fun z => X9.F.dm _ z ln) (Mv.gone X9.mv ln) X9.inV X9.vW (fun p hp => absurd hp List.not_mem_nil)
    have g12 := gv.ext X12.F.ext
    obtain ⟨bl, pos, tot, tott⟩ := bool_law df top (e := eq) (fun _ => hE.symm)
    have al : (st'.args t).length = is.length := by
      rcases top.2.2.1 with q | ⟨_, x, y, q1, q2⟩
      · rw [q]
      · rw [q1, q2]; rfl
    have rows : ((List.range 8).map fun k => D.tab (rowOf op eq t is k)) = ((List.range 8).map (rowOf op eq t is)).map .tab := by rw [List.map_map]; rfl
    rw [rows] at X12
    refine Xs.retD (d := .bool true) (Ev.cast (Ev.call g12 r (Ev.fn g12 (by kernel_rfl)) (by kernel_rfl) (.cons X12.F.var (.cons X12.F.var (.cons X12.F.var (.cons X12.F.var (.cons Ev.cbool .nil rfl) rfl) rfl) rfl) rfl) (right_fn (ha := true) (atoms := atomsOf op eq t is) g12 X12.F.dm (bk.in_ X12.F.ext fun b hb => .inl hb) (ck.ext X12.F.ext) df.p.wf ?_ (fun _ _ => ⟨⟨it, ?_, ?_, ?_, ?_, ?_⟩, fun line hl => ?_⟩) (fun kv hkv => ?_) (by simp))) (by rw [bl])) fun v h' x rv => kr _ _ ⟨rv, fin (X12.F.ext.trans x)⟩
    · unfold atomsOf
      split <;> rw [srt_len]
      · have := ddp_len (l := [t, eq]); simp at this; omega
      · have := ddp_len (l := is.map (fun x => (st11.plain x).1) ++ [t]); simp at this; have := df.l23; omega
    · rw [al]; have := df.l23; omega
    · intro x hx
      refine (df.p.pool x (df.mem x ?_)).1
      rcases top.2.2.1 with q | ⟨_, x', y', q1, q2⟩
      · rw [← q]; exact hx
      · rw [q1]; rw [q2] at hx; simp at hx ⊢; omega
    · intro _ _ _ q; rw [q] at al; have := df.l23; simp at al; omega
    · intro q; rw [al]; exact df.ite (top.2.1 ▸ q)
    · intro _ _ _ q4 q5 q6; rw [al]; rw [top.2.1] at q4 q5 q6; exact df.two q4 q5 q6
    · have := defn_len (st := st') (t := t) line hl
      rw [al] at this
      have l23 := df.l23
      have h3 : is.length * is.length ≤ 3 * 3 := Nat.mul_le_mul (by omega) (by omega)
      omega
    · obtain ⟨n', _, rfl⟩ := List.mem_map.mp hkv
      refine ⟨?_, tott n', fun cl hcl x hx => tot _ (let_lits pos cl hcl x hx) n'⟩
      unfold rowOf
      refine Nat.le_trans tset_len ?_
      have l5 : (rowK n' 3).length ≤ 5 := Nat.le_of_eq rfl
      split
      · exact Nat.le_trans (Nat.add_le_add_right tset_len 1) (by omega)
      · omega
end
end
section
variable {w : World} {A : Around} {h h0 hb : Heap} {H W V : List Addr} {env : Env} {mg mb : Str → Option Value} {vars : List (Str × D)} {os : List (Addr × Own)}
variable {PN : Heap → Prop} {PR : Value → Heap → Prop} {rest body : List Stmt}
variable {a : BA} {st st' : BS} {c : Addr} {W0 : List Addr}
noncomputable def enumD (ls : List Int) : List D := (List.range ls.length).map fun (i : Nat) => .tup [.int (i : Int), .int ls[i]!]
noncomputable def tupL : D → List D
  | .tup l => l
  | _ => []
theorem Src2.enum {ce : Addr → Env} {xs : List (Str × Pos)} {n : Nat} {tp np pos : Pos} {ls : List Int} {e : Expr} {es : List Expr} (g : Gd w mg mb h) (hh : A.handled = none) (m : Ev w A W0 env h e (.list (ls.map .int)))
    (hkc : ∀ C, (ce C).scope.kind = .function) (hloc : ∀ C, ∀ x ∈ xs, (ce C).kindOf x.1 = some .local) (hnd : (xs.map (·.1)).Nodup) (hl : xs.length = 2) (hea : ∀ C, assignEach es (ce C) = xs.map fun x => (false, assign (.Name x.1 x.2) (ce C)))
    (q : nsIn (KF w.params) mainGlobals (S "enumerate") = some none := by kernel_rfl) (hb : bootBuiltins (S "enumerate") = some (.type "enumerate") := by kernel_rfl) (hst : starEach [e] env = (false, eval e env) :: starEach [] env := by rfl)
    (hg : env.globals = mainGlobals := by rfl) (hbb : env.builtins = builtinsNs := by rfl) (hk : env.scope.kind = .function := by rfl) (hlk : env.kindOf (S "enumerate") = some .globalImplicit := by rfl)
    (hs : eval (.Call (.Name (S "enumerate") np) [e] [] pos) env = (do let __do_lift ← eval (.Name (S "enumerate") np) env; callWith pos __do_lift [] (backTo pos (starEach [e] env)) (backToKw pos (keywordEach [] env))) := by rfl) :
    Src2 w A W0 env h ce (.Call (.Name (S "enumerate") np) [e] [] pos) (.Tuple es n tp) (xs.map (·.1)) tupL (enumD ls) := fun s Q E ee k => by
  refine Call_ ((nmT g q hb (by decide) hg hbb hk hlk (by decide)) np s _ E ee fun u h1 tk1 x1 r => ?_) hs
  subst r
  have as : Es w A W0 env h [e] [.list (ls.map .int)] := .cons m .nil hst
  refine PyProof.Rows.callWith_type as.plain ?_
  have go := as.go (pos := pos)
  rw [hst] at go ⊢
  refine evalArgs_plain (go _ _ E (ee.trans x1) fun vs h2 tk2 x2 r2 => ?_)
  obtain ⟨v, rfl, l, ws, rfl, nl, il, rl⟩ := one r2
  refine call_enumerate_list (s := { s with heap := h2, toks := tk2 }) il fun h3 he hi hsz x3 => ?_
  have x3 : Ext h2 h3 := x3
  have hsz : h3.objs.size = h2.objs.size + 2 := hsz
  have ll : l < h2.objs.size := by obtain ⟨o, q, _⟩ := il; exact Heap.lt_size q
  have fr : ∀ b, h2.objs.size ≤ b → s.heap.get? b = none := fun b hb => by
    cases q : s.heap.get? b with
    | none => rfl
    | some o => exact absurd (Heap.lt_size ((x1.trans x2) b o q)) (Nat.not_lt.mpr hb)
  refine wpAny_pyIter_enum he ?_
  have W := fun (A' : Around) (hA : A'.handled = none) => WalksT.enumerate (prog := prg) (w := w) hA (h2.objs.size + 1) h2.objs.size l (Nat.succ_ne_self _) (Nat.ne_of_lt (Nat.lt_succ_of_lt ll)) (Nat.ne_of_lt ll) ws.toArray
  have W := W A hh
  have lw : ws.toArray.size = ls.length := by rw [List.size_toArray, rl.length, List.length_map]
  have dl : (enumD ls).length = ls.length := by unfold enumD; rw [List.length_map, List.length_range]
  rw [lw] at W
  refine k _ _ _ _ h3 tk2 ((x1.trans x2).trans x3)
    { st := ⟨⟨_, he⟩, hi, il.at fun o q => x3 _ o q⟩
      low := fun b hb => by
        simp only [List.mem_cons, List.not_mem_nil, or_false] at hb
        rcases hb with rfl | rfl | rfl
        · rw [hsz]; exact Nat.lt_succ_self _
        · rw [hsz]; exact Nat.lt_succ_of_lt (Nat.lt_succ_self _)
        · rw [hsz]; exact Nat.lt_succ_of_lt (Nat.lt_succ_of_lt ll)
      iw := .head _, sub := W.sub
      new := fun b hb => by
        simp only [List.mem_cons, List.not_mem_nil, or_false] at hb
        rcases hb with rfl | rfl
        · exact fr _ (Nat.le_succ _)
        · exact fr _ (Nat.le_refl _)
      self := W.self
      wk := fun C Dx h₁ eC Cf nC nD x4 =>
        { frame := W.frame
          live := fun i h a b hb => by
            simp only [List.mem_cons, List.not_mem_nil, or_false] at hb
            rcases hb with rfl | rfl
            · obtain ⟨⟨old, q⟩, _⟩ := a; rw [q]; exact fun z => nomatch z
            · obtain ⟨_, ⟨o, q, _⟩, _⟩ := a; rw [q]; exact fun z => nomatch z
          done := fun s Q E a k => W.done s Q E (dl ▸ a) fun h₂ tk q => k h₂ tk q
          step := fun m i s Q E hi a x5 n5 k => W.item i s Q E (dl ▸ hi) a fun T vals h6 tk6 pt szT isT mid x6 => k (.ref T) _ fun Q' E1 E2 q => by
            have x6 : ExtO [h2.objs.size + 1, h2.objs.size] s.heap h6 := x6
            have hi' : i < ls.length := dl ▸ hi
            obtain ⟨t, x, hx, rfl⟩ := pt
            obtain ⟨z, z1, t', rfl⟩ : ∃ z, ws[i]? = some z ∧ ∃ t', z = .int ls[i]! t' := by
              obtain ⟨z, z1, z2⟩ := rl.get i (d := .int ls[i]!) (by rw [getElem!_pos ls i hi']; simp [hi'])
              exact ⟨z, z1, z2⟩
            have : x = .int ls[i]! t' := by
              have : ws.toArray[i]? = some (.int ls[i]! t') := by simpa using z1
              rw [hx] at this; exact Option.some.inj this
            subst this
            have Cw : (ce C).locals ∉ [h2.objs.size + 1, h2.objs.size] := fun y => Cf (W.sub _ (eC ▸ y))
            refine W.go es n tp i T { s with heap := h6, toks := tk6 } _ _ mid fun h7 st7 x7 => ?_
            have x7 : ExtO [h2.objs.size + 1, h2.objs.size] h6 h7 := x7
            have Tw := W.apart i T h6 mid
            refine assign_Tuple_tuple (s := { s with heap := h7, toks := tk6 }) hh (isT.at fun o y => x7 _ o Tw y) (by rw [hea C]; simp [hl]) (by rw [hea C]; simp [List.findIdx?_eq_none_iff]) fun h8 he8 => ?_
            have x8 : Ext h7 h8 := ext_of_but he8
            rw [hea C, List.map_map]
            refine assign_names (H := C :: Dx :: ([h2.objs.size + 1, h2.objs.size] ++ W0)) (hkc C) (by rw [eC]; exact .head _) xs [.int i, .int ls[i]!] _ m _ Q' E1 (hloc C) hnd hl ⟨_, _, rfl, ⟨_, rfl⟩, _, _, rfl, ⟨_, rfl⟩, rfl⟩ (((n5.at' fun o y => x6 _ o Cw y).at' fun o y => x7 _ o Cw y).keeps x8) fun h9 tk9 m9 x9 n9 b9 _ => ?_
            have x9 : ExtO [(ce C).locals] h8 h9 := x9
            refine q (.tup [.int i, .int ls[i]!]) h9 tk9 m9 (by unfold enumD; rw [List.getElem?_map, List.getElem?_range hi']; rfl) (W.frame _ _ _ st7 fun b hb o y => x9 b o (fun z => by rw [List.mem_singleton.mp z, eC] at hb; exact Cf hb) (x8 b o y)) (fun b o nb y => x9 b o (fun z => nb (by rw [List.mem_singleton.mp z]; exact .head _)) (x8 b o (x7 b o (fun z => nb (.tail _ z)) (x6 b o (fun z => nb (.tail _ z)) y)))) n9 b9 } }
end
section
variable {w : World} {A : Around} {h h0 hb : Heap} {H W V : List Addr} {env : Env} {mg mb : Str → Option Value} {vars : List (Str × D)} {os : List (Addr × Own)}
variable {PN : Heap → Prop} {PR : Value → Heap → Prop} {rest body : List Stmt}
variable {a : BA} {st st' : BS} {c : Addr}
noncomputable def waysL : Nat → List (List Int)
  | 0 => [[]]
  | 1 => [[0]]
  | 2 => [[0, 0], [0, 1]]
  | _ => [[0, 0, 0], [0, 0, 1], [0, 1, 0], [0, 1, 1], [0, 1, 2]]
noncomputable def mx (l : List Int) : Int := if l = [] then -1 else if 1 ∈ l then 1 else 0
theorem mx_ok : ∀ k : Nat, k < 3 → ∀ l ∈ waysL k, (mx l ∈ l ++ [-1] ∧ (∀ a ∈ l ++ [-1], a ≤ mx l) ∧ -1 ≤ mx l ∧ mx l ≤ 1) ∧ l.length ≤ 2 := by decide
noncomputable def intsOf (l : List D) : List Int := l.map fun | .int i => i | _ => 0
theorem intsOf_map {l : List Int} : intsOf (l.map .int) = l := by unfold intsOf; rw [List.map_map]; exact List.map_id l
noncomputable def wEs : D → List D
  | .list l => (List.range (mx (intsOf l) + 2).toNat).map fun i => D.int (i : Nat)
  | _ => []
noncomputable def wF : D → D → D
  | .list l, e => .list (l ++ [e])
  | d, _ => d
noncomputable def LL (l : List Int) : D := .list (l.map .int)
theorem ways_step : ∀ k : Nat, k < 3 → (((waysL k).map LL).flatMap fun d => (wEs d).map (wF d)) = (waysL (k + 1)).map LL := fun k hk => lt3 (P := fun k => (((waysL k).map LL).flatMap fun d => (wEs d).map (wF d)) = (waysL (k + 1)).map LL) rfl rfl rfl hk
theorem lk598 : (KF w.params).lookup 598 = some o598 := by kernel_rfl
theorem ways_fn (g : Gd w mg mb h) (hdm : Dm H h) : Fn w 2 H h 598 [.int 3] (.list ((waysL 3).map LL)) := by
  refine Fn.enter (ps := [S "many"]) g hdm lk598 (by kernel_rfl) (args1 fun _ => rfl) rfl (fun n => rfl) (by decide) rfl rfl rfl (fun L A' W h0 h1 r e hH hW F => ?_)
  conv => arg 7; whnf
  refine Xx.asg (d := .list ((waysL 0).map LL)) (Fx.of F) (Ev.list F.dm (.cons (Ev.list F.dm .nil) .nil rfl)) fun h2 X2 => ?_
  have g2 := g.ext (e.trans X2.F.ext)
  refine Xx.forIn (B := fun d => [(S "k", d)]) (vs := fun i => [(S "found", .list ((waysL i).map LL)), (S "many", .int 3)]) (oo := fun i => []) X2 (Src.rangeN (n := 3) g2 r.hd X2.F.var (by decide) (by kernel_rfl) (by kernel_rfl)) Tg.name ⟨rfl, rfl, trivial⟩ rfl (fun i => rfl) ?_ ?_
  · intro I k d h3 nI hd X3
    obtain ⟨hk, rfl⟩ := range_get hd
    have g3 := g.ext (e.trans X3.F.ext)
    have small : ((waysL k).map LL).length ≤ 1000 := lt3 (P := fun k => ((waysL k).map LL).length ≤ 1000) (by decide) (by decide) (by decide) hk
    refine Xx.asgC2 (es := wEs) (f := wF) (xs1 := [S "way"]) (pt1 := fun d => [d]) X3 (Src2.of (Src.list r.hd X3.F.var) (fun C I H' d hd hC => Binds.name rfl rfl hC)) (fun C H' d h₂ hd x mo F' => ?_) (fun C H' d e' h₂ hd he x mo F' => ?_) small (fun d hd => ?_) fun h4 X4 => ?_
    · obtain ⟨l, hl, rfl⟩ := List.mem_map.mp hd
      obtain ⟨⟨q1, q2, q3, q4⟩, q5⟩ := mx_ok k hk l hl
      have g4 := g3.ext x
      show Src _ _ _ _ _ _ ((List.range (mx (intsOf (l.map .int)) + 2).toNat).map fun i => D.int (i : Nat))
      rw [intsOf_map]
      exact Src.rangeN (n := (mx l + 2).toNat) g4 r.hd (Ev.cast (Ev.bin (Ev.callN g4 (by kernel_rfl) (by kernel_rfl) (.cons (Ev.cast (d' := .list ((l ++ [-1]).map .int)) (Ev.bin (F'.var (d := .list (l.map .int))) (Ev.list F'.dm (.cons (Ev.neg Ev.int) .nil rfl)) (Bin.cat F'.dm (by simp; omega))) (by simp)) .nil rfl) (CB.maxL r.hd q1 q2)) Ev.int Bin.add) (by rw [Int.toNat_of_nonneg (by omega)])) (by omega) (by kernel_rfl) (by kernel_rfl)
    · obtain ⟨l, hl, rfl⟩ := List.mem_map.mp hd
      obtain ⟨i, _, rfl⟩ := List.mem_map.mp he
      obtain ⟨_, q5⟩ := mx_ok k hk l hl
      exact Ev.bin (F'.var (d := .list (l.map .int))) (Ev.list F'.dm (.cons F'.var .nil rfl)) (Bin.cat F'.dm (by simp; omega))
    · obtain ⟨l, hl, rfl⟩ := List.mem_map.mp hd
      obtain ⟨⟨_, _, q3, q4⟩, q5⟩ := mx_ok k hk l hl
      show ((List.range (mx (intsOf (l.map .int)) + 2).toNat).map _).length ≤ 50
      rw [intsOf_map, List.length_map, List.length_range]; omega
    · rw [ways_step k hk] at X4
      exact Xs.nil (turn0 X4 ⟨rfl, rfl, trivial⟩)
  · intro h3 X3
    simp only [List.length_map, List.length_range] at X3
    exact Xs.retD X3.F.var fun v h' x r => ⟨X3.F.ext.trans x, r⟩
section
variable {VB HB : List Addr} {hst : Heap}
theorem Lx.forS {σ : Type} {Jσ : σ → List Addr → Heap → Prop} {oσ : σ → List (Addr × Own)} {Inv : Nat → σ → Prop} {target iter : Expr} {pos : Pos} {ds : List D} {B : D → List (Str × D)} {vs : List (Str × D)} {s0 : σ} (sj : ∀ s, Sta (Jσ s)) (L : Lx VB HB (Jσ s0) hst V h0 W env vars (oσ s0) h)
    (src : Src w A W env h iter ds) (tg : Tg w A h0 env target B ds) (i0 : Inv 0 s0) (p0 : Pick vars vs) (oa : ∀ s, (oσ s).map (·.1) = (oσ s0).map (·.1))
    (turn : ∀ I i d h1 s, h.get? I = none → ds[i]? = some d → Inv i s → Lx VB (I :: HB) (Jσ s) h1 V h0 (I :: W) env (B d ++ vs) (oσ s) h1 → Xs w A env (fun h3 => ∃ s' vars', Inv (i + 1) s' ∧ Lx VB (I :: HB) (Jσ s') h1 V h0 (I :: W) env vars' (oσ s') h3 ∧ Pick vars' vs) PR h1 body)
    (fin : ∀ h2 s, Inv ds.length s → Lx VB HB (Jσ s) hst V h0 W env vs (oσ s) h2 → Xs w A env PN PR h2 rest) (hs : ∀ x, foldedSetIterable iter env x = pure x := by intro _; rfl) : Xs w A env PN PR h (.For target iter body [] pos :: rest) := by
  refine Xs.forIn (J := fun I i h1 => ∃ s, Inv i s ∧ Lx VB (I :: HB) (Jσ s) hst V h0 (I :: W) env vs (oσ s) h1) src L.X.F.dm ?_ ?_ ?_ ?_ hs
  · intro I h1 x nI nI'
    have Y : Fx h V h0 ([I] ++ W) env vars (oσ s0) h1 := L.X.hide x (fun b hb => by rw [List.mem_singleton.mp hb]; exact nI) (fun b hb => by rw [List.mem_singleton.mp hb]; exact nI')
    exact ⟨s0, i0, (Y.pick p0).base, fun b hb => (List.mem_cons.mp hb).elim (fun z => .inr (z ▸ .head _)) fun z => (L.wB b z).imp id fun z => .tail _ z, fun b hb => let ⟨p, q⟩ := L.vB b hb; ⟨.tail _ p, q⟩, fun b hb => (List.mem_cons.mp hb).elim (fun z => z ▸ .head _) fun z => .tail _ (L.hW b z), L.mv.trans x.mv, sj s0 L.j (To.more x fun b hb => (List.mem_cons.mp hb).elim (fun z => .inr (z ▸ nI)) .inl)⟩
  · rintro I i h1 h2 nI ⟨s, iv, Y⟩ m
    have nW : I ∉ W := fun z => L.X.F.dm _ z nI
    have h0I : h0.get? I = none := Mv.gone (L.X.F.ext.mv (B := [])) nI
    have nV : ∀ b ∈ V, b ∉ [I] := fun b hb z => nW (List.mem_singleton.mp z ▸ L.X.vW b hb)
    have X2 : Fx h2 V h0 (I :: W) env vs (oσ s) h2 := ⟨Y.X.F.move m fun b hb => by rw [List.mem_singleton.mp hb]; exact ⟨.head _, fun z => nW (L.X.F.inW _ z), h0I⟩,
      fun p hp => let ⟨a, b, c, d⟩ := Y.X.own p hp; ⟨a.to (To.mv m fun b hb => by rw [List.mem_singleton.mp hb]; exact .head _) fun o q => m.off _ o (nV _ b) q, b, c, d⟩, Y.X.nd, Y.X.inV, Y.X.vW, Mv.refl _ _⟩
    exact ⟨s, iv, X2, Y.wB, Y.vB, Y.hW, Mv.fresh (N := [I]) ((Y.mv.sub fun b hb => .tail _ hb).trans (m.sub fun b hb => by rw [List.mem_singleton.mp hb]; exact .head _)) (fun b hb => by rw [List.mem_singleton.mp hb]; exact Mv.gone L.mv nI), sj s Y.j (To.mv m fun b hb => by rw [List.mem_singleton.mp hb]; exact .head _)⟩
  · rintro I i d h1 v nI hd ⟨s, iv, Y⟩ r it
    refine tg _ _ I v d h1 _ (List.mem_of_getElem? hd) Y.X.F r it fun h2 m2 F2 => ?_
    have Y2 := Y.next0 (sj s) (Y.X.stored m2 F2)
    have Y3 : Lx VB (I :: HB) (Jσ s) h2 V h0 (I :: W) env (B d ++ vs) (oσ s) h2 := ⟨Y2.X, Y2.wB, Y2.vB, Y2.hW, Mv.refl _ _, Y2.j⟩
    intro sh Q E e kn kr
    refine turn I i d h2 s nI hd iv Y3 sh Q E e (fun h3 tk3 ⟨s', vars', iv', Z, pk⟩ => kn h3 tk3 ⟨⟨s', iv', (Z.pick pk).X, Z.wB, Z.vB, Z.hW, Y2.mv.trans Z.mv, Z.j⟩, (m2.sub L.X.F.inW).trans (Z.mv.sub fun b hb => (List.mem_append.mp hb).elim (fun z => (L.vB b z).1) fun z => L.X.vW b z)⟩) kr
  · rintro I h1 h2 nI ⟨s, iv, Y⟩ x
    have nW : I ∉ W := fun z => L.X.F.dm _ z nI
    have F2 := Y.X.F.drop x (Mv.gone (L.X.F.ext.mv (B := [])) nI) nW L.X.F.inW
    refine fin h2 s iv ⟨⟨F2, fun p hp => ?_, Y.X.nd, Y.X.inV, L.X.vW, Mv.refl _ _⟩, L.wB, L.vB, L.hW, fun b o e => ?_, sj s Y.j fun b o nb e => ⟨fun z => nb (.tail _ z), x b o (fun z => nb (by rw [List.mem_singleton.mp z]; exact .head _)) e⟩⟩
    · obtain ⟨a, b, c, d⟩ := Y.X.own p hp
      have hW : p.1 ∈ W := L.X.vW _ b
      exact ⟨a.to (fun b o hb e => ⟨fun z => hb (.tail _ z), x b o (fun z => hb (by rw [List.mem_singleton.mp z]; exact .head _)) e⟩) fun o q => x _ o (fun z => nW (List.mem_singleton.mp z ▸ hW)) q, b, c, d⟩
    · obtain ⟨o1, e1, q1⟩ := Y.mv b o e
      have ne : b ∉ [I] := fun z => by
        have := Mv.gone L.mv nI
        rw [← List.mem_singleton.mp z, e] at this; cases this
      exact ⟨o1, x b o1 ne e1, q1⟩
theorem Lx.appendM {J : List Addr → Heap → Prop} {P : D → (List Addr → Heap → Prop) → Prop} {o e : Expr} {ap pos pos2 : Pos} {l : Addr} {ds : List D} (sj : Sta J) (sj' : ∀ d J', P d J' → Sta J') (L : Lx VB HB J hst V h0 W env vars ((l, .list ds) :: os) h) (he : Ev w A W env h o (.obj l))
    (y : ∀ h1, Ext h h1 → Lx VB HB J hst V h0 W env vars ((l, .list ds) :: os) h1 → Mx w A h1 (eval e env) (fun v h2 => ∃ d J', P d J' ∧ Mv VB h1 h2 ∧ J' HB h2 ∧ Rd W h2 d v)) (hsz : ds.length ≤ 100000)
    (k : ∀ d J' h', P d J' → Lx VB HB J' hst V h0 W env vars ((l, .list (ds ++ [d])) :: os) h' → Xs w A env PN PR h' rest) {pl : Sem Bool}
    (hs : eval (.Call (.Attribute o (Str.ofString "append") ap) [e] [] pos) env = (do let ov ← eval o env; standAt (Pos.atName ap); let (f, first) ← holding [ov] (getMethod ov (Str.ofString "append") pl); callWith pos f first (backTo pos (starEach [e] env)) []) := by rfl)
    (hb : backTo pos (starEach [e] env) = [(false, eval e env)] := by rfl) (hi : interactive env = false := by rfl) :
    Xs w A env PN PR h (.Expr (.Call (.Attribute o (Str.ofString "append") ap) [e] [] pos) pos2 :: rest) := by
  refine Xs.exprM (R := fun h1 => ∃ d J', P d J' ∧ Lx VB HB J' hst V h0 W env vars ((l, .list (ds ++ [d])) :: os) h1) (fun s Q E e0 kq => ?_) (fun h1 ⟨d, J', p, L'⟩ => k d J' h1 p L') hi rfl
  subst e0
  refine MethodCall_ (pl := pl) (he s _ E (Ext.refl _) fun u h1 tk1 x1 r1 => ?_) hs
  cases r1
  have L1 := L.up sj x1
  obtain ⟨⟨vs, ⟨n, p⟩, rv⟩, hV, nf, n0⟩ := L1.X.own _ (.head _)
  have hl := L1.X.vW _ hV
  refine Calls.getMethod_list_append (s := { s with heap := h1, toks := tk1 }) p rfl rfl ?_
  rw [hb]
  refine Calls.callWith_builtin rfl ?_
  refine evalArgs_plain (spliced_cons (y h1 x1 L1 _ _ E rfl fun v h2 tk2 ⟨d, J', pd, m2, j2, r2⟩ => spliced_nil ?_))
  have L2 := L1.eff m2 j2
  obtain ⟨⟨vs, ⟨n, p2⟩, rv⟩, _⟩ := L2.X.own _ (.head _)
  have hz : vs.size ≤ sizeLine := by have := rv.length; have e : vs.toList.length = vs.size := by simp
                                     have : sizeLine = 2 ^ 24 := rfl
                                     omega
  have e1 : l ∉ VB := fun z => (L.vB _ z).2.1 hV
  refine wpAny_list_append_plain (s := { s with heap := h2, toks := tk2 }) ⟨n, p2⟩ (fun h3 p3 hs3 => ?_) hz
  have m3 : Mv [l] h2 h3 := Mv.one hs3 (by obtain ⟨n, q⟩ := p3; rw [q]; exact fun z => nomatch z)
  have qB : ∀ b ∈ [l], b ∈ W := fun b hb => by rw [List.mem_singleton.mp hb]; exact hl
  refine kq _ h3 _ ⟨d, J', pd, L2.next0 (sj' d J' pd) ⟨L2.X.F.move m3 fun b hb => by rw [List.mem_singleton.mp hb]; exact ⟨hl, nf, n0⟩, fun p hp => ?_, L2.X.nd, L2.X.inV, L2.X.vW, m3.sub fun b hb => List.mem_singleton.mp hb ▸ hV⟩⟩
  rcases List.mem_cons.mp hp with rfl | hp
  · refine ⟨⟨_, p3, ?_⟩, hV, nf, n0⟩
    rw [Array.toList_push]
    exact (rv.to (To.mv m3 qB)).snoc (r2.to (To.mv m3 qB))
  · obtain ⟨a, b, c, d⟩ := L2.X.own p (.tail _ hp)
    have ne : p.1 ≠ l := fun z => by have := L2.X.nd; rw [List.map_cons, List.nodup_cons] at this; exact this.1 (z ▸ List.mem_map_of_mem (f := (·.1)) hp)
    exact ⟨a.to (To.mv m3 qB) fun o z => m3.off _ o (fun y => ne (List.mem_singleton.mp y)) z, b, c, d⟩
end
open Sem (wp)
theorem zip_getattr_none : typeLookup (.type "zip") "__getattr__" = pure none := by rw [typeLookup_type, builtinLookup_eq_fast]; kernel_rfl
theorem zip_keys_none : typeLookup (.type "zip") "keys" = pure none := am_miss_of_fast (by kernel_rfl)
theorem entry_zip_getattribute : entryFor table "zip.__getattribute__" = some Builtin.«object.__getattribute__» :=
  entryFor_alias (id' := "object.__getattribute__") (by kernel_rfl) (by decide +kernel) (by decide +kernel) (by kernel_rfl)
theorem meets_zip_keys (a : Addr) (fs : Array Value) (u : Tok) :
    Meets (Builtin.«object.__getattribute__» ⟨[.ref a, .str "keys" u], []⟩) (fun A R s => s.heap.get? a = some { cls := .type "zip", dict := none, data := .fields fs, slots := #[] } ∧ raisesAttr (.ref a) "keys" A R s) :=
  Meets.of_wp fun prog w A R s hs => by
    obtain ⟨hp, g, d, tk, os⟩ := s
    obtain ⟨hx, hs⟩ := hs
    have hmiss := zip_keys_none
    have hname : (["__module__", "__name__", "__qualname__", "__doc__", "__annotations__"] : List Str).contains "keys" = false := by decide
    have hT : (⟨hp, g, d, tk, os⟩ : Shared).TypeIs (.ref a) "zip" := ⟨_, hx, rfl⟩
    unfold Builtin.«object.__getattribute__»
    repeat (any_goals (first | assumption | wp_step))
    repeat (any_goals (first | assumption | wp_step))
    exact wpAny_raiseAttrError hs.1 hs.2 (attrMsg_fits (by decide +kernel) (by decide +kernel))
section
variable {E : Value → Shared → Prop} {s : Shared}
theorem zip_has_no_keys {a : Addr} {fs : Array Value} {Q : Option Value → Shared → Prop} (hx : s.heap.get? a = some { cls := .type "zip", dict := none, data := .fields fs, slots := #[] }) (hA : A.handled = none)
    (h : ∀ h' tk, Ext s.heap h' → Q none { s with heap := h', toks := tk }) : wpAny (model prg w) A (getAttr? (.ref a) "keys") Q E s := by
  obtain ⟨hp, g, d, tk, os⟩ := s
  have hT : ∀ tk', (⟨hp, g, d, tk', os⟩ : Shared).TypeIs (.ref a) "zip" := fun _ => ⟨_, hx, rfl⟩
  have f1 := sub_AttributeError
  have f3 := F.slot_zip_getattribute.lookup
  have f4 := F.slot_zip_getattribute.bind (.ref a)
  have f5 := zip_getattr_none
  unfold getAttr? getAttrBy? getAttrBy
  repeat (any_goals (first | assumption | exact hT _ | ((with_reducible show wpAny _ _ (call (Value.builtin "zip.__getattribute__") _ _) _ _ _); refine call_meets F.slot_zip_getattribute (hT _) entry_zip_getattribute (F.args_zip_getattribute_2 _ _) (meets_zip_keys a fs _) ⟨hx, hA, fun h' tk' e hx' => ?_⟩) | wp_step))
  obtain ⟨t', u', he⟩ := hx'.there
  show wpAny _ _ (getattributeRaised _ _ _ _ _ _ _) _ _ _
  unfold getattributeRaised
  repeat (any_goals (first | assumption | wp_step))
  exact h _ _ fun b o q => hx'.keeps b o q
theorem wpAny_alive {M : Model} {a : Addr} {Q : Option Obj → Shared → Prop} (h : Q (s.heap.get? a) s) : wpAny M A (loadIfAlive a) Q E s := fun Γ p hΓ => by
  unfold loadIfAlive; rw [Sem.wp_loadIfAlive]; exact (wpAny_pure h) Γ p hΓ
theorem nm4 {x a b c d : Addr} (p : x ≠ a) (q : x ≠ b) (r : x ≠ c) (u : x ≠ d) : x ∉ [a, b, c, d] := fun h => (List.mem_cons.mp h).elim p fun h => (List.mem_cons.mp h).elim q fun h => (List.mem_cons.mp h).elim r fun h => u (List.mem_singleton.mp h)
theorem nm4' {x a b c d : Addr} (h : x ∉ [a, b, c, d]) : x ≠ a ∧ x ≠ b ∧ x ≠ c ∧ x ≠ d := ⟨fun e => h (e ▸ .head _), fun e => h (e ▸ .tail _ (.head _)), fun e => h (e ▸ .tail _ (.tail _ (.head _))), fun e => h (e ▸ .tail _ (.tail _ (.tail _ (.head _))))⟩
structure ZAt (h : Heap) (z TI TO i1 i2 l1 l2 : Addr) (k : Nat) (xs ys : Array Value) : Prop where
  D : ZipApart z TI TO i1 i2 l1 l2
  z : (IsZip h z TI TO .none) ∨ ∃ (T : Addr) (f1 : Bool), h.get? z = some { cls := .type "zip", dict := none, data := .fields #[rawInt T, .bool f1, .bool false, .ref TI, .ref TO], slots := #[] } ∧ (h.get? T).isSome = true ∧ T ∉ [z, TO, i1, i2]
  TI : IsPair h TI (.ref i1) (.ref i2)
  TO : ∃ a b, IsPair h TO a b
  i1 : h.IsListIter i1 l1 k
  i2 : h.IsListIter i2 l2 k
  l1 : h.IsList l1 xs
  l2 : h.IsList l2 ys
theorem ZAt.keep {h h' : Heap} {z TI TO i1 i2 l1 l2 : Addr} {k : Nat} {xs ys : Array Value} (Z : ZAt h z TI TO i1 i2 l1 l2 k xs ys) (e : Ext h h') : ZAt h' z TI TO i1 i2 l1 l2 k xs ys :=
  ⟨Z.D, Z.z.imp (fun q => e _ _ q) fun ⟨T, f1, q, a, b⟩ => ⟨T, f1, e _ _ q, by cases y : h.get? T with
    | none => rw [y] at a; cases a
    | some o => rw [e _ _ y]; rfl, b⟩, e _ _ Z.TI, let ⟨a, b, q⟩ := Z.TO; ⟨a, b, e _ _ q⟩, Z.i1.at fun o q => e _ _ q, Z.i2.at fun o q => e _ _ q, Z.l1.at fun o q => e _ _ q, Z.l2.at fun o q => e _ _ q⟩
theorem zip_next {z TI TO i1 i2 l1 l2 : Addr} {k : Nat} {xs ys : Array Value} {x y : Value} {Q : Option Value → Shared → Prop} (Z : ZAt s.heap z TI TO i1 i2 l1 l2 k xs ys) (hx : xs[k]? = some x) (hy : ys[k]? = some y)
    (hQ : ∀ T h', h'.IsTuple T #[x, y] → ZAt h' z TI TO i1 i2 l1 l2 (k + 1) xs ys → ExtO [z, TO, i1, i2] s.heap h' → Q (some (.ref T)) { s with heap := h' }) : wpAny (model prg w) A (pyNext (.ref z)) Q E s := by
  obtain ⟨D, hz, hTI, ⟨a, b, hTO⟩, h1, h2, hl1, hl2⟩ := Z
  have lt : ∀ {c o}, s.heap.get? c = some o → s.heap.objs.size ≠ c := fun e => Nat.ne_of_gt (Heap.lt_size e)
  rcases hz with hz | ⟨T, f1, hz, hal, hTn⟩
  · refine wpAny_pyNext_zip_item D hz hTI hTO h1 h2 hl1 hl2 hx hy fun h' a1 a2 a3 a4 a5 a6 hk => ?_
    refine hQ _ h' ⟨_, a5, rfl, _, rfl⟩ ⟨D, .inr ⟨_, false, a1, by rw [a5]; rfl, ?_⟩, hk _ _ D.TIz D.TITO D.TIi1 D.TIi2 hTI, ⟨_, _, a2⟩, a3, a4, hl1.at fun o e => hk _ o D.l1z D.l1TO D.l1i1 D.l1i2 e, hl2.at fun o e => hk _ o D.l2z D.l2TO D.l2i1 D.l2i2 e⟩ fun b o nb e => ?_
    · exact nm4 (lt hz) (lt hTO) (by obtain ⟨_, e, _⟩ := h1; exact lt e) (by obtain ⟨_, e, _⟩ := h2; exact lt e)
    · obtain ⟨n1, n2, n3, n4⟩ := nm4' nb
      exact hk b o n1 n2 n3 n4 e
  · have hT : s.TypeIs (.ref z) "zip" := ⟨_, hz, rfl⟩
    unfold pyNext
    refine wpAny_bind (wpAny_attempt (wpAny_callSpecial?_slot (name := Str.ofString "__next__") hT F.slot_zip_next (wpAny_call_entry F.slot_zip_next hT F.entry_zip_next ?_ (F.args_zip_next_1 _))))
    show wpAny _ _ (field (.ref z) 2 >>= _) _ _ _
    refine wpAny_bind (wpAny_field hz rfl (x := .bool false) rfl ?_)
    show wpAny _ _ (field (.ref z) 3 >>= _) _ _ _
    refine wpAny_bind (wpAny_field hz rfl (x := .ref TI) rfl ?_)
    refine wpAny_bind (wpAny_seqItems hTI rfl ?_)
    show wpAny _ _ (Builtin.SmallTypes.ownedTupleIsFree (.ref z) >>= _) _ _ _
    refine wpAny_bind ?_
    unfold Builtin.SmallTypes.ownedTupleIsFree
    refine wpAny_bind (wpAny_field hz rfl (x := rawInt T) rfl ?_)
    show wpAny _ _ (loadIfAlive (Int.toNat T) >>= _) _ _ _
    refine wpAny_bind (wpAny_alive ?_)
    have : (s.heap.get? (Int.toNat (T : Int))).isNone = false := by
      rw [Int.toNat_natCast]; cases y : s.heap.get? T with
      | none => rw [y] at hal; cases hal
      | some o => rfl
    rw [this]
    simp -iota only [Bool.false_eq_true, if_false]
    refine wpAny_bind (wpAny_field hz rfl (x := .bool f1) rfl ?_)
    have fl : ∀ (Q : Bool → Shared → Prop) (E : Value → Shared → Prop), (∀ h', h'.get? z = some { cls := .type "zip", dict := none, data := .fields #[rawInt T, .bool true, .bool false, .ref TI, .ref TO], slots := #[] } → Heap.SameBut z s.heap h' → Q false { s with heap := h' }) → wpAny (model prg w) A.in1 (if (Value.bool f1 != .bool true) = true then (setField (.ref z) 1 (.bool true) >>= fun _ => pure false) else pure false) Q E s := fun Q E k => by
      cases f1 with
      | true => exact wpAny_pure (k s.heap hz (Heap.SameBut.refl ..))
      | false => exact wpAny_bind (wpAny_setField_rec hz (by simp) fun h' a b => wpAny_pure (k h' a b))
    refine fl _ _ fun h₁ hz₁ hs₁ => ?_
    simp -iota only [Bool.false_eq_true, if_false]
    refine wpAny_bind ?_
    rw [← Array.forIn_toList]
    simp -iota only [List.forIn_cons, List.forIn_nil]
    refine wpAny_bind (wpAny_bind (wpAny_holding ?_))
    show wpAny _ _ (Builtin.SmallTypes.nextOf (.ref i1) >>= _) _ _ _
    refine wpAny_bind (wpAny_nextOf_list_item (s := { s with heap := h₁ }) (h1.extBut hs₁.extBut D.i1z) (hl1.extBut hs₁.extBut D.l1z) hx fun h₂ h1₂ hs₂ => wpAny_pure ?_)
    dsimp only
    refine wpAny_pure ?_
    dsimp only
    refine wpAny_bind (wpAny_bind (wpAny_holding ?_))
    show wpAny _ _ (Builtin.SmallTypes.nextOf (.ref i2) >>= _) _ _ _
    refine wpAny_bind (wpAny_nextOf_list_item (s := { s with heap := h₂ }) ((h2.extBut hs₁.extBut D.i2z).extBut hs₂.extBut D.i12.symm) ((hl2.extBut hs₁.extBut D.l2z).extBut hs₂.extBut D.l2i1) hy fun h₃ h2₃ hs₃ => wpAny_pure ?_)
    dsimp only
    refine wpAny_pure ?_
    dsimp only
    refine wpAny_pure ?_
    dsimp only
    refine wpAny_bind (wpAny_newTuple (hsz := by show (2 : Nat) ≤ sizeLine; decide) ?_)
    show wpAny _ _ (ret (.ref h₃.objs.size)) _ _ _
    have k13 : ∀ c o, c ≠ z → c ≠ i1 → c ≠ i2 → s.heap.get? c = some o → h₃.get? c = some o := fun c o c1 c2 c3 e => hs₃.extBut _ _ c3 (hs₂.extBut _ _ c2 (hs₁.extBut _ _ c1 e))
    have kp : Ext h₃ (h₃.push { cls := .type "tuple", data := .seq #[x, y] }) := Ext.push _ _
    refine wpAny_pure ⟨_, rfl, wpAny_pure (hQ h₃.objs.size _ ⟨_, Heap.get?_push_size _ rfl, rfl, _, rfl⟩ (ZAt.keep (h := h₃) ⟨D, .inr ⟨T, true, hs₃.extBut _ _ D.i2z.symm (hs₂.extBut _ _ D.i1z.symm hz₁), ?_, hTn⟩, k13 _ _ D.TIz D.TIi1 D.TIi2 hTI, ⟨a, b, k13 _ _ D.TOz D.TOi1 D.TOi2 hTO⟩, h1₂.extBut hs₃.extBut D.i12, h2₃, hl1.at fun o e => k13 _ o D.l1z D.l1i1 D.l1i2 e, hl2.at fun o e => k13 _ o D.l2z D.l2i1 D.l2i2 e⟩ kp) fun c o nc e => kp _ _ ?_)⟩
    · obtain ⟨n1, n2, n3, n4⟩ := nm4' hTn
      cases y' : s.heap.get? T with
      | none => rw [y'] at hal; cases hal
      | some o => rw [k13 T o n1 n3 n4 y']; rfl
    · obtain ⟨n1, n2, n3, n4⟩ := nm4' nc
      exact k13 c o n1 n3 n4 e
theorem zip_done {z TI TO i1 i2 l1 l2 : Addr} {k : Nat} {xs ys : Array Value} {Q : Option Value → Shared → Prop} (hh : A.handled = none) (Z : ZAt s.heap z TI TO i1 i2 l1 l2 k xs ys) (hx : xs[k]? = none)
    (hQ : ∀ h', ExtO [z, TO, i1, i2] s.heap h' → Q none { s with heap := h' }) : wpAny (model prg w) A (pyNext (.ref z)) Q E s := by
  obtain ⟨D, hz, hTI, ⟨a, b, hTO⟩, h1, h2, hl1, hl2⟩ := Z
  rcases hz with hz | ⟨T, f1, hz, hal, hTn⟩
  · exact wpAny_pyNext_zip_end hh D hz hTI hTO h1 h2 hl1 hl2 (.inl hx) fun h' hk => hQ h' fun b o nb e => by
      obtain ⟨n1, n2, n3, n4⟩ := nm4' nb
      exact hk b o n1 n2 n3 n4 e
  · have hT : s.TypeIs (.ref z) "zip" := ⟨_, hz, rfl⟩
    unfold pyNext
    refine wpAny_bind (wpAny_attempt (wpAny_callSpecial?_slot (name := Str.ofString "__next__") hT F.slot_zip_next (wpAny_call_entry F.slot_zip_next hT F.entry_zip_next ?_ (F.args_zip_next_1 _))))
    show wpAny _ _ (field (.ref z) 2 >>= _) _ _ _
    refine wpAny_bind (wpAny_field hz rfl (x := .bool false) rfl ?_)
    show wpAny _ _ (field (.ref z) 3 >>= _) _ _ _
    refine wpAny_bind (wpAny_field hz rfl (x := .ref TI) rfl ?_)
    refine wpAny_bind (wpAny_seqItems hTI rfl ?_)
    show wpAny _ _ (Builtin.SmallTypes.ownedTupleIsFree (.ref z) >>= _) _ _ _
    refine wpAny_bind ?_
    unfold Builtin.SmallTypes.ownedTupleIsFree
    refine wpAny_bind (wpAny_field hz rfl (x := rawInt T) rfl ?_)
    show wpAny _ _ (loadIfAlive (Int.toNat T) >>= _) _ _ _
    refine wpAny_bind (wpAny_alive ?_)
    have : (s.heap.get? (Int.toNat (T : Int))).isNone = false := by
      rw [Int.toNat_natCast]; cases y : s.heap.get? T with
      | none => rw [y] at hal; cases hal
      | some o => rfl
    rw [this]
    simp -iota only [Bool.false_eq_true, if_false]
    refine wpAny_bind (wpAny_field hz rfl (x := .bool f1) rfl ?_)
    have fl : ∀ (Q : Bool → Shared → Prop) (E : Value → Shared → Prop), (∀ h', Heap.SameBut z s.heap h' → Q false { s with heap := h' }) → wpAny (model prg w) A.in1 (if (Value.bool f1 != .bool true) = true then (setField (.ref z) 1 (.bool true) >>= fun _ => pure false) else pure false) Q E s := fun Q E k => by
      cases f1 with
      | true => exact wpAny_pure (k s.heap (Heap.SameBut.refl ..))
      | false => exact wpAny_bind (wpAny_setField_rec hz (by simp) fun h' a b => wpAny_pure (k h' b))
    refine fl _ _ fun h₁ hs₁ => ?_
    simp -iota only [Bool.false_eq_true, if_false]
    refine wpAny_bind ?_
    rw [← Array.forIn_toList]
    simp -iota only [List.forIn_cons, List.forIn_nil]
    refine wpAny_bind (wpAny_bind (wpAny_holding ?_))
    show wpAny _ _ (Builtin.SmallTypes.nextOf (.ref i1) >>= _) _ _ _
    refine wpAny_bind (wpAny_nextOf_list_end (s := { s with heap := h₁ }) hh (h1.extBut hs₁.extBut D.i1z) (hl1.extBut hs₁.extBut D.l1z) hx fun h₂ e hs₂ he => ?_)
    obtain ⟨o, ho, hc⟩ := he
    refine wpAny_bind (wpAny_isInstance (T := "StopIteration") (b := true) ⟨o, ho, hc⟩ isSubtype_stop ?_)
    refine wpAny_pure (hQ _ fun b o nb e => ?_)
    obtain ⟨n1, n2, n3, n4⟩ := nm4' nb
    exact hs₂ _ _ n3 (hs₁.extBut _ _ n1 e)
theorem ne_of_nm {d b : Addr} {L : List Addr} (h : d ∉ L) (m : b ∈ L) : b ≠ d := fun e => h (e ▸ m)
theorem ZAt.off {h h' : Heap} {z TI TO i1 i2 l1 l2 d : Addr} {k : Nat} {xs ys : Array Value} (Z : ZAt h z TI TO i1 i2 l1 l2 k xs ys) (hd : d ∉ [z, TO, i1, i2]) (hT : d ∉ [l1, l2, TI]) (e : ∀ b o, b ≠ d → h.get? b = some o → h'.get? b = some o) (dd : (h'.get? d).isSome = true) : ZAt h' z TI TO i1 i2 l1 l2 k xs ys := by
  have z' := ne_of_nm hd (.head _)
  have l1' := ne_of_nm hT (.head _)
  have i1' := ne_of_nm hd (.tail _ (.tail _ (.head _)))
  have i2' := ne_of_nm hd (.tail _ (.tail _ (.tail _ (.head _))))
  have l2' := ne_of_nm hT (.tail _ (.head _))
  refine ⟨Z.D, Z.z.imp (fun q => e _ _ z' q) fun ⟨T, f1, q, a, b⟩ => ⟨T, f1, e _ _ z' q, ?_, b⟩, e _ _ (ne_of_nm hT (.tail _ (.tail _ (.head _)))) Z.TI, let ⟨a, b, q⟩ := Z.TO; ⟨a, b, e _ _ (ne_of_nm hd (.tail _ (.head _))) q⟩, Z.i1.at fun o q => e _ _ i1' q, Z.i2.at fun o q => e _ _ i2' q, Z.l1.at fun o q => e _ _ l1' q, Z.l2.at fun o q => e _ _ l2' q⟩
  by_cases Td : T = d
  · rw [Td]; exact dd
  · cases y : h.get? T with
    | none => rw [y] at a; cases a
    | some o => rw [e _ _ Td y]; rfl
theorem plain_upd_loop : plainId "dict.update.loop" = true := by decide +kernel
theorem entry_upd_loop : entryFor table "dict.update.loop" = some Builtin.«dict.update.loop» := entryFor_of_tree (by kernel_rfl)
theorem upd_loop {R : Result → Shared → Prop} {z TI TO i1 i2 l1 l2 d : Addr} {xs ys : Array Value} (hh : A.handled = none) (hd : d ∉ [z, TO, i1, i2]) (hT : d ∉ [l1, l2, TI]) : ∀ (P : List (Int × Value)) (acc : List (Int × Value)) (k : Nat) (i : Int) (s : Shared), ZAt s.heap z TI TO i1 i2 l1 l2 k xs ys → s.heap.DictOf (intKind prg w) d acc →
    (∀ j (hj : j < P.length), ∃ x, xs[k + j]? = some x ∧ (intKind prg w).is P[j].1 x = true ∧ ys[k + j]? = some P[j].2) → xs[k + P.length]? = none → acc.length + P.length ≤ 1000 →
    (∀ h' tk, h'.DictOf (intKind prg w) d (merged acc P) → ExtO (d :: [z, TO, i1, i2]) s.heap h' → R (.ok (.ret .none)) { s with heap := h', toks := tk }) →
    codeAny (model prg w) A (.builtin "dict.update.loop" ⟨[.ref d, .ref z, rawInt i, .none], []⟩) R s
  | [], acc, k, i, s, Z, D, hp, he, hz, hR => by
    refine codeAny_builtin entry_upd_loop ?_
    rw [Around.under_plainId plain_upd_loop _]
    show wpAny _ _ (pyNext (.ref z) >>= _) _ _ _
    refine wpAny_bind (zip_done hh Z he fun h' x => ?_)
    show wpAny _ _ (Builtin.Dict.addKeywords d [] >>= _) _ _ _
    refine wpAny_bind (wpAny_pure ?_)
    show wpAny _ _ (ret .none) _ _ _
    refine wpAny_pure (hR h' _ ?_ fun b o nb e => x b o (fun q => nb (.tail _ q)) e)
    obtain ⟨o, es, ep, e1, r⟩ := D
    exact ⟨o, es, ep, x _ _ hd e1, r⟩
  | q :: P, acc, k, i, s, Z, D, hp, he, hz, hR => by
    refine codeAny_builtin entry_upd_loop ?_
    rw [Around.under_plainId plain_upd_loop _]
    show wpAny _ _ (pyNext (.ref z) >>= _) _ _ _
    obtain ⟨x, hx, hk, hy⟩ := hp 0 (by simp)
    refine wpAny_bind (zip_next Z hx hy fun T h1 isT Z1 x1 => ?_)
    have D1 : h1.DictOf (intKind prg w) d acc := by obtain ⟨o, es, ep, e1, r⟩ := D; exact ⟨o, es, ep, x1 _ _ hd e1, r⟩
    dsimp only
    refine wpAny_bind (wpAny_holding (wpAny_bind (wpAny_tryCatch ?_)))
    unfold Builtin.Dict.pairItems
    refine wpAny_bind (wpAny_typeOf (s := { s with heap := h1 }) isT.typeIs ?_)
    rw [if_pos (by rfl)]
    obtain ⟨oT, eT, cT, nT, dT⟩ := isT
    refine wpAny_bind (wpAny_seqItems (s := { s with heap := h1 }) eT dT (wpAny_pure ?_))
    show wpAny _ _ (holding [x, q.2] (dictSet d x q.2)) _ _ _
    refine wpAny_holding (wpAny_dictSet_pairs (s := { s with heap := h1 }) (hsz := by simp only [List.length_cons] at hz; have : sizeLine = 2 ^ 24 := rfl; omega) hk D1 fun h2 D2 hs2 => wpAny_pure ⟨plainId_quiet plain_upd_loop _, ?_⟩)
    have Z2 := Z1.off hd hT (fun b o n e => hs2.extBut b o n e) (by obtain ⟨o, _, _, e1, _⟩ := D2; rw [e1]; rfl)
    refine upd_loop hh hd hT P (stored acc q.1 q.2) (k + 1) (i + 1) _ Z2 D2 (fun j hj => ?_) ?_ ?_ fun h' tk D' x' => ?_
    · obtain ⟨x, a, b, c⟩ := hp (j + 1) (by simp; omega)
      exact ⟨x, by rw [show k + 1 + j = k + (j + 1) by omega]; exact a, by simpa using b, by rw [show k + 1 + j = k + (j + 1) by omega]; simpa using c⟩
    · rw [show k + 1 + P.length = k + (P.length + 1) by omega]; simpa using he
    · have := stored_length_le acc q.1 q.2
      simp only [List.length_cons] at hz
      omega
    · exact hR h' tk D' fun b o nb e => x' b o nb (hs2.extBut b o (fun z => nb (z ▸ .head _)) (x1 b o (fun z => nb (.tail _ z)) e))
end
section
variable {E : Value → Shared → Prop} {s : Shared}
theorem dict_zip {z TI TO i1 i2 l1 l2 : Addr} {xs ys : Array Value} {P : List (Int × Value)} {Q : Value → Shared → Prop} (hh : A.handled = none) (hz : IsZip s.heap z TI TO .none) (Z : ZAt s.heap z TI TO i1 i2 l1 l2 0 xs ys)
    (hp : ∀ j (hj : j < P.length), ∃ x, xs[j]? = some x ∧ (intKind prg w).is P[j].1 x = true ∧ ys[j]? = some P[j].2) (he : xs[P.length]? = none) (hn : P.length ≤ 1000)
    (k : ∀ h' tk, ExtO [z, TO, i1, i2] s.heap h' → h'.DictOf (intKind prg w) s.heap.objs.size (merged [] P) → Q (.ref s.heap.objs.size) { s with heap := h', toks := tk }) : wpAny (model prg w) A (PySem.call (.type "dict") [.ref z]) Q E s := by
  refine callType_codes (Q₁ := fun obj s₁ => obj = .ref s.heap.objs.size ∧ s₁ = { s with heap := s.heap.push { cls := .type "dict", data := .dict #[] } }) F.kt_called_dict (F.kt_typeCall_dict_1 _) F.entry_dict_init (kt_code_dict_new _ ⟨rfl, rfl⟩) ?_
  rintro obj s₁ ⟨rfl, rfl⟩
  generalize hH : s.heap.push { cls := .type "dict", data := .dict #[] } = H
  have xe : Ext s.heap H := hH ▸ Ext.push _ _
  have dd : H.get? s.heap.objs.size = some { cls := .type "dict", data := .dict #[] } := hH ▸ Heap.get?_push_size _ rfl
  have hd : H.DictOf (intKind prg w) s.heap.objs.size [] := hH ▸ Heap.DictOf.new _
  have ht : Shared.TypeIs { s with heap := H } (.ref z) "zip" := ⟨_, xe _ _ hz, rfl⟩
  refine ⟨⟨_, dd, rfl⟩, F.args_dict_init_2 _ _, ?_⟩
  unfold Builtin.«dict.__init__»
  refine wpAny_bind ?_
  unfold Builtin.Dict.selfAndRest
  refine wpAny_bind (wpAny_notOrdered_dict ⟨_, dd, rfl⟩ ?_)
  show wpAny _ _ (pure (s.heap.objs.size, [Value.ref z])) _ _ _
  refine wpAny_pure ?_
  show wpAny _ _ (Builtin.Dict.updateFrom "dict.__init__" s.heap.objs.size (.ref z) [] .none) _ _ _
  unfold Builtin.Dict.updateFrom
  refine wpAny_bind (wpAny_typeOf ht ?_)
  rw [if_pos (by decide)]
  refine wpAny_bind (zip_has_no_keys (s := { s with heap := H }) (xe _ _ hz) hh fun h1 tk1 x1 => ?_)
  have x1 : Ext H h1 := x1
  rw [if_pos (by rfl)]
  refine wpAny_bind (wpAny_rule ?_)
  refine wpAny_bind (wpAny_pyIter_zip (s := { s with heap := h1, toks := tk1 }) (x1 _ _ (xe _ _ hz)) ?_)
  refine wpAny_pure ⟨plainId_quiet plain_upd_loop _, ?_⟩
  have lt : ∀ {c o}, s.heap.get? c = some o → s.heap.objs.size ≠ c := fun e => Nat.ne_of_gt (Heap.lt_size e)
  have n4 : s.heap.objs.size ∉ [z, TO, i1, i2] := by
    simp only [List.mem_cons, List.not_mem_nil, or_false, not_or]
    obtain ⟨_, _, hTO⟩ := Z.TO
    exact ⟨lt hz, lt hTO, (by obtain ⟨_, e, _⟩ := Z.i1; exact lt e), (by obtain ⟨_, e, _⟩ := Z.i2; exact lt e)⟩
  have n3 : s.heap.objs.size ∉ [l1, l2, TI] := by
    simp only [List.mem_cons, List.not_mem_nil, or_false, not_or]
    exact ⟨(by obtain ⟨_, e, _⟩ := Z.l1; exact lt e), (by obtain ⟨_, e, _⟩ := Z.l2; exact lt e), lt Z.TI⟩
  refine upd_loop (A := A.in1) hh n4 n3 P [] 0 0 { s with heap := h1, toks := tk1 } (Z.keep (xe.trans x1)) (by obtain ⟨o, es, ep, e1, r⟩ := hd; exact ⟨o, es, ep, x1 _ _ e1, r⟩) (by simpa using hp) (by simpa using he) (by simpa using hn) fun h' tk D x' => ?_
  refine ⟨rfl, k h' tk (fun b o nb e => x' b o (fun q => (List.mem_cons.mp q).elim (fun q => lt e q.symm) nb) (x1 _ _ (xe _ _ e))) D⟩
end
noncomputable def zipA (ks vs : List Int) : List (Int × At) := (ks.zip vs).map fun p => (p.1, At.int p.2)
theorem zipA_vals {H : List Addr} {h : Heap} : ∀ {ks vs : List Int} {us : List Value}, RdAll H h (vs.map .int) us → TabVals (zipA ks vs) (ks.zip us)
  | [], _, _, _ => trivial
  | _ :: _, [], us, r => by cases r; exact trivial
  | k :: ks, v :: vs, us, ⟨u, us', e, ⟨t, e1⟩, r⟩ => by subst e e1; exact ⟨rfl, ⟨t, rfl⟩, zipA_vals r⟩
theorem dictZip {e1 e2 : Expr} {np1 np2 p1 p2 : Pos} {ks vs : List Int} (g : Gd w mg mb h) (hh : A.handled = none) (m1 : Ev w A W env h e1 (.list (ks.map .int))) (m2 : Ev w A W env h e2 (.list (vs.map .int))) (hl : ks.length = vs.length) (hz : ks.length ≤ 1000)
    (q1 : nsIn (KF w.params) mainGlobals (S "dict") = some none := by kernel_rfl) (hb1 : bootBuiltins (S "dict") = some (.type "dict") := by kernel_rfl) (q2 : nsIn (KF w.params) mainGlobals (S "zip") = some none := by kernel_rfl) (hb2 : bootBuiltins (S "zip") = some (.type "zip") := by kernel_rfl)
    (hst : starEach [e1, e2] env = (false, eval e1 env) :: starEach [e2] env := by rfl) (hst2 : starEach [e2] env = (false, eval e2 env) :: starEach [] env := by rfl) (hst3 : starEach [.Call (.Name (S "zip") np2) [e1, e2] [] p2] env = (false, eval (.Call (.Name (S "zip") np2) [e1, e2] [] p2) env) :: starEach [] env := by rfl)
    (hg : env.globals = mainGlobals := by rfl) (hbb : env.builtins = builtinsNs := by rfl) (hk : env.scope.kind = .function := by rfl) (hl1 : env.kindOf (S "dict") = some .globalImplicit := by rfl) (hl2 : env.kindOf (S "zip") = some .globalImplicit := by rfl)
    (hs1 : eval (.Call (.Name (S "dict") np1) [.Call (.Name (S "zip") np2) [e1, e2] [] p2] [] p1) env = (do let __do_lift ← eval (.Name (S "dict") np1) env; callWith p1 __do_lift [] (backTo p1 (starEach [.Call (.Name (S "zip") np2) [e1, e2] [] p2] env)) (backToKw p1 (keywordEach [] env))) := by rfl)
    (hs2 : eval (.Call (.Name (S "zip") np2) [e1, e2] [] p2) env = (do let __do_lift ← eval (.Name (S "zip") np2) env; callWith p2 __do_lift [] (backTo p2 (starEach [e1, e2] env)) (backToKw p2 (keywordEach [] env))) := by rfl) :
    ∀ (s : Shared) (Q : Value → Shared → Prop) (E : Value → Shared → Prop), s.heap = h → (∀ l h' tk, h.get? l = none → Ext h h' → Tab h' l (tmerge [] (zipA ks vs)) → Q (.ref l) { s with heap := h', toks := tk }) → wpAny (model prg w) A (eval (.Call (.Name (S "dict") np1) [.Call (.Name (S "zip") np2) [e1, e2] [] p2] [] p1) env) Q E s := fun s Q E he k => by
  subst he
  refine Call_ ((nmT g q1 hb1 (by decide) hg hbb hk hl1 (by decide)) np1 s _ E (Ext.refl _) fun u h1 tk1 x1 r => ?_) hs1
  subst r
  refine PyProof.Rows.callWith_type (by rw [hst3]; rfl) ?_
  rw [hst3]
  refine evalArgs_plain (spliced_cons ?_)
  refine Call_ ((nmT g q2 hb2 (by decide) hg hbb hk hl2 (by decide)) np2 _ _ E x1 fun u h2 tk2 x2 r => ?_) hs2
  subst r
  have as : Es w A W env s.heap [e1, e2] [.list (ks.map .int), .list (vs.map .int)] := .cons m1 (.cons m2 .nil hst2) hst
  refine PyProof.Rows.callWith_type as.plain ?_
  have go := as.go (pos := p2)
  rw [hst] at go ⊢
  have x2 : Ext h1 h2 := x2
  refine evalArgs_plain (go _ _ E (Ext.trans x1 x2) fun ws h3 tk3 x3 r3 => ?_)
  obtain ⟨u1, u2, rfl, ⟨l1, us1, rfl, n1, il1, rl1⟩, ⟨l2, us2, rfl, n2, il2, rl2⟩⟩ := two r3
  have x3 : Ext h2 h3 := x3
  refine call_zip_2 (s := { s with heap := h3, toks := tk3 }) il1 il2 fun h4 z1 z2 z3 z4 z5 hsz x4 => spliced_nil ?_
  have x4 : Ext h3 h4 := x4
  have e03 : Ext s.heap h3 := x1.trans (x2.trans x3)
  have lt1 : l1 < h3.objs.size := by obtain ⟨o, q, _⟩ := il1; exact Heap.lt_size q
  have lt2 : l2 < h3.objs.size := by obtain ⟨o, q, _⟩ := il2; exact Heap.lt_size q
  have Z : ZAt h4 (h3.objs.size + 4) (h3.objs.size + 2) (h3.objs.size + 3) h3.objs.size (h3.objs.size + 1) l1 l2 0 us1.toArray us2.toArray := by
    refine ⟨?_, .inl z1, z2, ⟨_, _, z3⟩, z4, z5, il1.at fun o q => x4 _ o q, il2.at fun o q => x4 _ o q⟩
    generalize h3.objs.size = m at lt1 lt2
    have ne : ∀ {a b : Nat}, a ≠ b → (a : Addr) ≠ b := fun h => h
    constructor <;> (refine ne ?_; have := lt1; have := lt2; simp only [Addr] at *; omega)
  have ll1 : us1.length = ks.length := by rw [rl1.length, List.length_map]
  have ll2 : us2.length = ks.length := by rw [rl2.length, List.length_map, hl]
  have lp : (ks.zip us2).length = ks.length := by rw [List.length_zip, ll2, Nat.min_self]
  refine dict_zip (s := { s with heap := h4, toks := tk3 }) (P := ks.zip us2) hh z1 Z (fun j hj => ?_) ?_ (by rw [lp]; exact hz) fun h5 tk5 x5 D => ?_
  · have hj' : j < ks.length := lp ▸ hj
    obtain ⟨x, hx, t, e⟩ := rl1.get j (d := .int ks[j]) (by simp [hj'])
    refine ⟨x, by simpa using hx, ?_, ?_⟩
    · rw [e]; simp only [List.getElem_zip]; exact isInt_of
    · simp [List.getElem_zip, ll2, hj']
  · rw [lp]; simp [ll1]
  · have x5 : ExtO [h3.objs.size + 4, h3.objs.size + 3, h3.objs.size, h3.objs.size + 1] h4 h5 := x5
    refine k _ h5 tk5 ((e03.trans x4).gone (get_new _)) (fun b o e => x5 b o (fun q => ?_) (x4 b o (e03 b o e))) ⟨sys_size ((g.ext e03).ext x4), w, _, D, tmerge_vals (zipA_vals rl2) trivial⟩
    have lb : b < h3.objs.size := Heap.lt_size (e03 b o e)
    simp only [List.mem_cons, List.not_mem_nil, or_false] at q
    rcases q with q | q | q | q
    · rw [q] at lb; exact absurd lb (Nat.not_lt.mpr (Nat.le_add_right _ _))
    · rw [q] at lb; exact absurd lb (Nat.not_lt.mpr (Nat.le_add_right _ _))
    · rw [q] at lb; exact Nat.lt_irrefl _ lb
    · rw [q] at lb; exact absurd lb (Nat.not_lt.mpr (Nat.le_add_right _ _))
noncomputable def st9 (some : List Int) : BS := ⟨ts8 ++ [(S "distinct", some, 0, 0)], 4, 6⟩
noncomputable def idx : List (Nat × Nat) := [(0, 1), (0, 2), (1, 2)]
noncomputable abbrev Pr := Int × Int × Int
noncomputable def stepP (some : List Int) (σ : List Pr × BS) (p : (Nat × Nat) × Bool) : List Pr × BS :=
  let a := some[p.1.1]!
  let b := some[p.1.2]!
  if a = b ∨ p.2 = true then (σ.1 ++ [(σ.2.eqN a b, a, b)], σ.2.eqd a b) else σ
noncomputable def run (some : List Int) (cs : List Bool) : List Pr × BS := (idx.zip cs).foldl (stepP some) ([], st9 some)
theorem run_snoc {some : List Int} {cs : List Bool} {c : Bool} (h : cs.length < 3) : run some (cs ++ [c]) = stepP some (run some cs) (idx[cs.length]!, c) := by
  cases cs with
  | nil => rfl
  | cons a r => cases r with
    | nil => rfl
    | cons b r => cases r with
      | nil => rfl
      | cons d r => exact absurd h (Nat.not_lt.mpr (Nat.le_add_left 3 r.length))
noncomputable def lateOf (some : List Int) : List (Int × Int) := ((List.range some.length).flatMap fun j => (some.take j).map fun a => (if some[j]! < a then some[j]! else a, if some[j]! > a then some[j]! else a))
noncomputable def hasAll (st : BS) (some : List Int) : Bool := (lateOf some).all fun p => p.1 == p.2 || !(numOf st.ts (S "=", [p.1, p.2], 0, 0) == 0)
noncomputable def home (way : List Int) (x : Int) : Int := if x = 6 then way[0]! else if x = 7 then way[1]! else way[2]!
noncomputable def rowP (ps : List Pr) (way : List Int) : List (Int × At) := ps.foldl (fun kv q => tset kv q.1 (.bool (home way q.2.1 == home way q.2.2))) [(1, .bool true)]
noncomputable def rowA (some : List Int) (ps : List Pr) (way : List Int) : List (Int × At) := tset (rowP ps way) 9 (.bool ((lateOf some).all fun p => !(home way p.1 == home way p.2)))
noncomputable def boolAt (kv : List (Int × At)) (x : Int) : Bool := match tget kv x with
  | some (.bool _) => true
  | _ => false
noncomputable def absI (x : Int) : Int := if x < 0 then -x else x
noncomputable def checkA (some : List Int) (cs : List Bool) : Bool :=
  let r := run some cs
  let ps := r.1
  let st := r.2
  let D := st.distinctDef 9 some
  let atoms := 9 :: ps.map (·.1)
  D.all (fun line => !(line.contains 0)) && ps.all (fun q => D.contains [-9, -q.1] && [1, 10, 11, 12].contains q.1 && ([6, 7, 8].contains q.2.1 && [6, 7, 8].contains q.2.2)) && (lateOf some).all (fun p => [6, 7, 8].contains p.1 && [6, 7, 8].contains p.2) && setFine ([9] ++ ps.map (·.1)) &&
  (st.op 9 == S "distinct" && st.args 9 == some && st.sort 9 == 0 && decide (st.ts.length ≤ 12) && decide (9 ≤ st.ts.length) && st.ts.all (fun k => !(k.1 == S "not"))) &&
  (waysL 3).all fun way =>
    let kv := rowA some ps way
    atoms.all (boolAt kv) && D.all (kept kv) && (!(hasAll st some) || D.any fun line => line.all (fun x => atoms.contains (absI x)) && !(kept (flipT kv 9) line))
noncomputable def th : List Int := [6, 7, 8]
theorem check2 : ∀ x ∈ th, ∀ y ∈ th, ∀ c ∈ [true, false], checkA [x, y] [c] = true := by decide +kernel
set_option maxRecDepth 1000000 in
theorem check3 : ∀ x ∈ th, ∀ y ∈ th, ∀ z ∈ th, ∀ c ∈ [true, false], ∀ d ∈ [true, false], ∀ e ∈ [true, false], checkA [x, y, z] [c, d, e] = true := by decide +kernel
section
variable {VB HB : List Addr} {hst : Heap}
theorem Xs.iteM {test : Expr} {body orelse : List Stmt} {pos : Pos} {PN' : Heap → Prop} {R : Bool → Heap → Prop} (t : Mx w A h (PySem.isTrue test env (eval test env)) R) (hb : ∀ b h1, R b h1 → Xs w A env PN' PR h1 (if b = true then body else orelse)) (k : ∀ h', PN' h' → Xs w A env PN PR h' rest) :
    Xs w A env PN PR h (.If test body orelse pos :: rest) := fun s Q E he kn kr => by
  subst he
  refine wpAny_execs_cons (wpAny_If (t s _ E rfl fun c h1 tk x => ?_))
  have hb := hb c h1 x { s with heap := h1, toks := tk } (fun f s' => match f with | .next => wpAny (model prg w) A (execs rest env) Q E s' | f => Q f s') E rfl (fun h' tk' p => k h' p _ Q E rfl kn kr) kr
  cases c
  · rw [if_neg (by decide)] at hb ⊢; exact wpAny_mono hb (fun f s' z => by cases f <;> exact z) fun _ _ z => z
  · rw [if_pos rfl] at hb ⊢; exact wpAny_mono hb (fun f s' z => by cases f <;> exact z) fun _ _ z => z
theorem Et.orM {l r : Expr} {pos : Pos} {p : Bool} {whole : Sem Value} {R : Bool → Heap → Prop} (x : Et w A env h l p) (y : ∀ h1, Ext h h1 → p = false → Mx w A h1 (PySem.isTrue r env (eval r env)) R) (z : ∀ h1, Ext h h1 → p = true → R true h1) : Mx w A h (PySem.isTrue (.BoolOp .Or [l, r] pos) env whole) R := fun s Q E e k => by
  subst e
  exact isTrue_or (x s _ E (Ext.refl _) fun v h1 tk1 x1 e1 => by
    subst e1
    cases v with
    | true => simpa using k true h1 tk1 (z h1 x1 rfl)
    | false =>
      simp -iota only [Bool.false_eq_true, if_false]
      refine isTrue_or (y h1 x1 rfl _ _ E rfl fun v2 h2 tk2 r2 => ?_)
      cases v2 with
      | true => simpa using k true h2 tk2 r2
      | false =>
        simp -iota only [Bool.false_eq_true, if_false]
        exact isTrue_or_nil (k false h2 tk2 r2))
theorem Mx.gtM {l r : Expr} {pos : Pos} {b : Int} {whole : Sem Value} {R1 : Int → Heap → Prop} (x : Mx w A h (eval l env) (fun v h1 => ∃ i, R1 i h1 ∧ ∃ t, v = .int i t)) (y : ∀ i h1, R1 i h1 → Ev w A H env h1 r (.int b)) (hb : behindInMarks .Gt r = false := by rfl) : Mx w A h (PySem.isTrue (.Compare l [.Gt] [r] pos) env whole) (fun c h' => ∃ i h1, R1 i h1 ∧ Ext h1 h' ∧ c = decide (i > b)) := fun s Q E e k => by
  subst e
  exact wpAny_isTrue_Compare1 (x s _ E rfl fun u h1 tk1 ⟨i, r1, t, e1⟩ => y i h1 r1 _ _ E (Ext.refl _) fun v h2 tk2 x2 r2 => Cm.gtI (H := H) u v h2 (Ext.refl _) (a := i) (by rw [e1]; exact ⟨t, rfl⟩) r2 _ _ E (Ext.refl _) fun q h3 tk3 x3 r3 => by
    subst r3; exact wpAny_truthy_bool (k _ h3 tk3 ⟨i, h1, r1, x2.trans x3, rfl⟩)) hb
theorem Fx.newL {l : Addr} {h1 : Heap} (X : Fx hb V h0 W env vars os h) (x1 : Ext h h1) (n0 : h.get? l = none) (p1 : h1.PlainList l #[]) : Fx hb (l :: V) h0 (l :: W) env vars ((l, .list []) :: os) h1 := by
  have n1 : h1.get? l ≠ none := by obtain ⟨n, q⟩ := p1; rw [q]; exact fun z => nomatch z
  have X1 : Fx hb V h0 ([l] ++ W) env vars os h1 := X.hide x1 (fun b hb => by rw [List.mem_singleton.mp hb]; exact n0) (fun b hb => by rw [List.mem_singleton.mp hb]; exact n1)
  have nf : l ∉ frA env := fun z => X.F.dm _ (X.F.inW _ z) n0
  exact ⟨X1.F, fun p hp => (List.mem_cons.mp hp).elim (fun e => by subst e; exact ⟨⟨#[], p1, rfl⟩, .head _, nf, Mv.gone (X.F.ext.mv (B := [])) n0⟩) fun hp => let ⟨a, b, c, d⟩ := X1.own p hp; ⟨a, .tail _ b, c, d⟩, List.nodup_cons.mpr ⟨fun z => by obtain ⟨p, hp, e⟩ := List.mem_map.mp z; exact (X.own p hp).1.some (e ▸ n0), X1.nd⟩, fun b hb => .tail _ (X1.inV b hb), fun b hb => (List.mem_cons.mp hb).elim (fun e => by subst e; exact .head _) fun hb => X1.vW b hb, X1.mv.sub fun b hb => .tail _ hb⟩
theorem Xs.pair {x1 x2 : Str} {ts : List Expr} {n n' : Nat} {tp vp pos : Pos} {e1 e2 : Expr} {R1 : Value → Heap → Prop} {T : List Addr → List Addr → List (Addr × Own) → D → D → Heap → Prop} (hh : A.handled = none) (m1 : Mx w A h (eval e1 env) R1)
    (m2 : ∀ v h1, R1 v h1 → Mx w A h1 (eval e2 env) (fun v2 h2 => Ex5 fun V W os d1 d2 => Fx h2 V h0 W env vars os h2 ∧ Rd W h2 d1 v ∧ Rd W h2 d2 v2 ∧ T V W os d1 d2 h2))
    (k : ∀ V W os d1 d2 h2 h3, T V W os d1 d2 h2 → Fx h2 V h0 W env ((x1, d1) :: (x2, d2) :: vars) os h3 → Xs w A env PN PR h3 rest) (k1 : locOk env x1 = true := by rfl) (k2 : locOk env x2 = true := by rfl)
    (hw : swappedStores [.Tuple ts n tp] (.Tuple [e1, e2] n' vp) env = pure (some [x1, x2]) := by rfl)
    (hst : backTo vp (starEach [e1, e2] env) = [(false, eval e1 env), (false, eval e2 env)] := by rfl)
    (hs : swapsWithSole [.Tuple ts n tp] (.Tuple [e1, e2] n' vp) pos.line env = pure false := by rfl) :
    Xs w A env PN PR h (.Assign [.Tuple ts n tp] (.Tuple [e1, e2] n' vp) pos :: rest) := fun s Q E he kn kr => by
  subst he
  refine wpAny_execs_cons (Assign_Tuple_swapped (Tuple_ ?_) hs hw)
  rw [hst]
  refine spliced_cons (m1 s _ E rfl fun v h1 tk1 r1 => spliced_cons (m2 v h1 r1 _ _ E rfl fun v2 h2 tk2 ⟨V, W, os, d1, d2, X, rd1, rd2, t⟩ => spliced_nil ?_))
  refine wpAny_newObj_type (s := { s with heap := h2, toks := tk2 }) ?_ (show 2 ≤ sizeLine by decide)
  refine unpackItems_tuple (items := #[v, v2]) hh ⟨_, Heap.get?_push_size _ rfl, rfl, _, rfl⟩ fun h4 x4 => ?_
  have x24 : Ext h2 h4 := (Ext.push _ _).trans (ext_of_but x4)
  refine Fx.swaps [x2, x1] [d2, d1] _ vars _ _ E rfl ⟨_, _, rfl, rd2.ext x24, _, _, rfl, rd1.ext x24, rfl⟩ (fun x hx => ?_) (X.up x24) fun h5 tk5 X5 => ?_
  · rcases List.mem_cons.mp hx with rfl | hx
    · exact k2
    · rw [List.mem_singleton.mp hx]; exact k1
  · exact k V W os d1 d2 h2 h5 t X5 _ Q E rfl kn kr
end
section
variable {VB HB W0 : List Addr} {hst : Heap} {fd : Addr} {Ls : List Int} {n : Nat}
structure PT (st : BS) : Prop where
  wf : st.Wf
  app : ∀ x ∈ [(3 : Int), 4, 5], st.is x ∧ st.sort x = 0 ∧ st.op x = S "app"
  thing : ∀ x ∈ th, st.is x ∧ st.sort x = 3
theorem numFrom_mem {k : Key} : ∀ {ts : List Key} {n : Nat}, 0 < n → k ∈ ts → numFrom ts k n ≠ 0
  | [], _, _, h => nomatch h
  | x :: r, n, hn, h => by
    show (if x = k then n else numFrom r k (n + 1)) ≠ 0
    by_cases z : x = k
    · rw [if_pos z]; omega
    · rw [if_neg z]; exact numFrom_mem (Nat.succ_pos _) ((List.mem_cons.mp h).resolve_left fun e => z e.symm)
theorem PT.made {k : Key} (p : PT st) (nk : k.1 ≠ S "not") : PT (st.made k) := by
  by_cases z : k ∈ st.ts
  · have : numOf st.ts k ≠ 0 := by unfold numOf; exact_mod_cast numFrom_mem (Nat.succ_pos _) z
    unfold BS.made; rw [if_neg this]; exact p
  · exact ⟨p.wf.made z nk, fun x hx => by
      obtain ⟨a, b, c⟩ := p.app x hx
      obtain ⟨a', c', _, b'⟩ := BS.made_get (k := k) a
      exact ⟨a', b'.trans b, c'.trans c⟩, fun x hx => by
      obtain ⟨a, b⟩ := p.thing x hx
      obtain ⟨a', _, _, b'⟩ := BS.made_get (k := k) a
      exact ⟨a', b'.trans b⟩⟩
theorem PT.eqd {x y : Int} (p : PT st) : PT (st.eqd x y) := by
  unfold BS.eqd
  split
  · exact p
  · exact p.made (show S "=" ≠ S "not" by decide)
theorem PT.s8 : PT st8 := by
  refine ⟨⟨fun t i q => ?_⟩, ?_, ?_⟩
  · exfalso
    obtain ⟨n, rfl⟩ : ∃ n : Nat, t = n + 1 := ⟨(t - 1).toNat, by have := i.1; omega⟩
    have hn : n < 8 := by have := i.2; have e : (st8.ts.length : Int) = 8 := by kernel_rfl
                          omega
    have : ∀ n : Nat, n < 8 → st8.op ((n : Int) + 1) ≠ S "not" := by decide +kernel
    exact this n hn q
  · have : ∀ x ∈ [(3 : Int), 4, 5], (0 < x ∧ x ≤ (st8.ts.length : Int)) ∧ st8.sort x = 0 ∧ st8.op x = S "app" := by decide +kernel
    exact this
  · have : ∀ x ∈ th, (0 < x ∧ x ≤ (st8.ts.length : Int)) ∧ st8.sort x = 3 := by decide +kernel
    exact this
theorem PT.s11 : PT st11 := by
  refine ⟨wf11, ?_, ?_⟩
  · have : ∀ x ∈ [(3 : Int), 4, 5], (0 < x ∧ x ≤ (st11.ts.length : Int)) ∧ st11.sort x = 0 ∧ st11.op x = S "app" := by decide +kernel
    exact this
  · have : ∀ x ∈ th, (0 < x ∧ x ≤ (st11.ts.length : Int)) ∧ st11.sort x = 3 := by decide +kernel
    exact this
theorem Drawn.pt {t : Int} {op : Str} {is : List Int} (d : Drawn st t op is) : PT st ∧ st.ts.length ≤ 13 := by
  refine ⟨?_, d.df.len⟩
  cases d with
  | and l p => exact PT.s11.made (show S "and" ≠ S "not" by decide)
  | or l p => exact PT.s11.made (show S "or" ≠ S "not" by decide)
  | xor p q => exact PT.s11.made (show S "xor" ≠ S "not" by decide)
  | imp p q => exact PT.s11.made (show S "=>" ≠ S "not" by decide)
  | ite p q r => exact PT.s11.made (show S "ite" ≠ S "not" by decide)
  | eq p q => exact PT.s11.eqd
  | dist p q => exact PT.s11.eqd.made (show S "distinct" ≠ S "not" by decide)
theorem made9 {some : List Int} : st8.made (S "distinct", some, 0, 0) = st9 some ∧ st8.numM (S "distinct", some, 0, 0) = 9 := by
  have n : (S "distinct", some, (0 : Int), (0 : Int)) ∉ st8.ts := fun q => by
    have : st8.ts.all (fun k => !(k.1 == S "distinct")) = true := by decide +kernel
    have := List.all_eq_true.mp this _ q
    simp at this
  obtain ⟨a, b⟩ := BS.made_new n
  exact ⟨a, by rw [b]; kernel_rfl⟩
theorem PT.s9 {some : List Int} : PT (st9 some) := made9.1 ▸ PT.s8.made (show S "distinct" ≠ S "not" by decide)
theorem step_pt {some : List Int} {σ : List Pr × BS} {p : (Nat × Nat) × Bool} (q : PT σ.2) : PT (stepP some σ p).2 ∧ (stepP some σ p).2.ts.length ≤ σ.2.ts.length + 1 := by
  unfold stepP
  dsimp only
  split
  · exact ⟨q.eqd, BS.eqd_len⟩
  · exact ⟨q, Nat.le_succ _⟩
theorem run_pt {some : List Int} {cs : List Bool} : PT (run some cs).2 ∧ (run some cs).2.ts.length ≤ 12 := by
  have : ∀ (l : List ((Nat × Nat) × Bool)) (σ : List Pr × BS), PT σ.2 → PT (l.foldl (stepP some) σ).2 ∧ (l.foldl (stepP some) σ).2.ts.length ≤ σ.2.ts.length + l.length := fun l => by
    induction l with
    | nil => exact fun σ q => ⟨q, Nat.le_refl _⟩
    | cons p l ih =>
      intro σ q
      obtain ⟨a, b⟩ := step_pt (some := some) (p := p) q
      obtain ⟨c, d⟩ := ih _ a
      refine ⟨c, Nat.le_trans d ?_⟩
      simp only [List.length_cons]; omega
  obtain ⟨a, b⟩ := this (idx.zip cs) ([], st9 some) PT.s9
  refine ⟨a, Nat.le_trans b ?_⟩
  have : (idx.zip cs).length ≤ 3 := by rw [List.length_zip]; exact Nat.min_le_left _ _
  show (ts8 ++ _).length + _ ≤ _
  have e : ts8.length = 8 := by kernel_rfl
  rw [List.length_append, e]; simp only [List.length_cons, List.length_nil]; omega
end
theorem Tg.tup {xs : List (Str × Pos)} {n : Nat} {tp : Pos} {es : List Expr} {ds : List D} {B : D → List (Str × D)} (hh : A.handled = none) (hd : ∀ d ∈ ds, ∃ l, d = .tup l ∧ xs.length = l.length ∧ B d = ((xs.map (·.1)).zip l).reverse) (lo : ∀ x ∈ xs, locOk env x.1 = true)
    (hea : assignEach es env = xs.map fun x => (false, assign (.Name x.1 x.2) env)) : Tg w A h0 env (.Tuple es n tp) B ds := fun W vars I v d h1 K hm F hr it k s Q E E' he kq => by
  subst he
  obtain ⟨l, rfl, hl, hB⟩ := hd d hm
  obtain ⟨oi, hoi, hci⟩ := it
  obtain ⟨t, vs, rfl, hnt, ht, ra⟩ := hr
  have hlet : wpAny (model prg w) A (letOwnedTupleGo (.Tuple es n tp) (.ref I) (.ref t)) (fun _ s₁ => s₁ = s) E' s := by
    show wpAny _ _ (load I >>= _) _ _ _
    refine wpAny_bind (wpAny_load hoi ?_)
    obtain ⟨c, dd, dt, sl⟩ := oi
    simp only at hci
    rcases hci with rfl | rfl | rfl <;> cases dt <;> exact wpAny_pure rfl
  refine wpAny_mono hlet (fun _ s₁ e => ?_) fun _ _ e => e
  subst e
  refine assign_Tuple_tuple hh ht (by rw [hea]; simp [ra.length, hl]) (by rw [hea]; simp [List.findIdx?_eq_none_iff]) fun h2 he => ?_
  have x1 : Ext s₁.heap h2 := ext_of_but he
  rw [hea, List.map_map]
  refine Fx.assigns xs l vs vars { s₁ with heap := h2 } Q E hl (ra.ext x1) lo ((Fx.of F).up x1) fun h3 tk3 X3 => ?_
  exact kq h3 tk3 (k h3 X3.mv (hB ▸ X3.F))
theorem dictLit1 {k1 v1 : Expr} {pos : Pos} {i1 : Int} {a1 : At} (g : Gd w mg mb h) (hk1 : Ev w A W env h k1 (.int i1)) (hv1 : Ev w A W env h v1 a1.d) :
    ∀ (s : Shared) (Q : Value → Shared → Prop) (E : Value → Shared → Prop), s.heap = h → (∀ l h' tk, h.get? l = none → Ext h h' → Tab h' l (tmerge [] [(i1, a1)]) → Q (.ref l) { s with heap := h', toks := tk }) → wpAny (model prg w) A (eval (.Dict [some k1] [v1] pos) env) Q E s :=
  dictLit (ps := [(eval k1 env, (do let x ← eval v1 env; standAt pos; pure x))]) g (Pv.cons hk1 hv1 (by exact True.intro)) (by simp) (by simp)
structure AF (is : List Int) (ps : List Pr) (st : BS) : Prop where
  z : ∀ line ∈ st.defn 9, 0 ∉ line
  pin : ∀ q ∈ ps, [-9, -q.1] ∈ st.defn 9 ∧ q.1 ∈ [(1 : Int), 10, 11, 12]
  pth : ∀ q ∈ ps, q.2.1 ∈ th ∧ q.2.2 ∈ th
  lth : ∀ p ∈ lateOf is, p.1 ∈ th ∧ p.2 ∈ th
  fine : setFine ([9] ++ ps.map (·.1)) = true
  it : st.is 9
  op : st.op 9 = S "distinct"
  args : st.args 9 = is
  sort : st.sort 9 = 0
  rows : ∀ way ∈ waysL 3, (∀ x ∈ 9 :: ps.map (·.1), ∃ b, tget (rowA is ps way) x = some (.bool b)) ∧ (∀ line ∈ st.defn 9, kept (rowA is ps way) line = true) ∧ (hasAll st is = true → ∃ line ∈ st.defn 9, (∀ x ∈ line, absI x ∈ 9 :: ps.map (·.1)) ∧ kept (flipT (rowA is ps way) 9) line = false)
theorem boolAt_of {kv : List (Int × At)} {x : Int} (h : boolAt kv x = true) : ∃ b, tget kv x = some (.bool b) := by
  unfold boolAt at h
  split at h
  · rename_i b q; exact ⟨b, q⟩
  · cases h
theorem AF.of {is : List Int} {cs : List Bool} (h : checkA is cs = true) : AF is (run is cs).1 (run is cs).2 := by
  unfold checkA at h
  dsimp only at h
  generalize (run is cs).1 = ps at h ⊢
  generalize (run is cs).2 = st at h ⊢
  simp only [Bool.and_eq_true] at h
  obtain ⟨⟨⟨⟨⟨h1, h2⟩, hL⟩, h3⟩, ⟨⟨⟨⟨⟨o1, o2⟩, o3⟩, o4⟩, o5⟩, o6⟩⟩, h4⟩ := h
  have op := beq_iff_eq.mp o1
  have ar := beq_iff_eq.mp o2
  have dn : st.defn 9 = st.distinctDef 9 is := by
    unfold BS.defn
    simp only [op, ar]
    rw [if_neg (show S "distinct" ≠ S "true" by decide), if_neg (show S "distinct" ≠ S "false" by decide), if_pos trivial]
  refine ⟨fun line hl => ?_, fun q hq => ?_, fun q hq => ?_, fun p hp => ?_, h3, ⟨by decide, by have := of_decide_eq_true o5; omega⟩, op, ar, beq_iff_eq.mp o3, fun way hw => ?_⟩
  · rw [dn] at hl
    have := List.all_eq_true.mp h1 line hl
    simpa using this
  · have := List.all_eq_true.mp h2 q hq
    simp only [Bool.and_eq_true, List.contains_iff_mem] at this
    rw [dn]; exact this.1
  · have := List.all_eq_true.mp h2 q hq
    simp only [Bool.and_eq_true, List.contains_iff_mem] at this
    exact this.2
  · have := List.all_eq_true.mp hL p hp
    simp only [Bool.and_eq_true, List.contains_iff_mem] at this
    exact this
  · have := List.all_eq_true.mp h4 way hw
    simp only [Bool.and_eq_true] at this
    obtain ⟨⟨a1, a2⟩, a3⟩ := this
    rw [dn]
    refine ⟨fun x hx => boolAt_of (List.all_eq_true.mp a1 x hx), fun line hl => List.all_eq_true.mp a2 line hl, fun ha => ?_⟩
    rw [ha] at a3
    simp only [Bool.not_true, Bool.false_or] at a3
    obtain ⟨line, hl, q⟩ := List.any_eq_true.mp a3
    rw [Bool.and_eq_true] at q
    refine ⟨line, hl, fun x hx => ?_, by simpa using q.2⟩
    have := List.all_eq_true.mp q.1 x hx
    rwa [List.contains_iff_mem] at this
theorem apart_law {is : List Int} {ps : List Pr} (f : AF is ps st) : ((waysL 3).map (rowA is ps)).all (rowRight (st.letOf (srt (ddp ([9] ++ ps.map (·.1)))) 9) 9 (hasAll st is)) = true ∧ (∀ x ∈ srt (ddp ([9] ++ ps.map (·.1))), 0 < x) ∧
    (∀ x ∈ srt (ddp ([9] ++ ps.map (·.1))), ∀ way ∈ waysL 3, ∃ b, tget (rowA is ps way) x = some (.bool b)) ∧ ∀ q ∈ ps, st.fault [-9, -q.1] (.int 9) = S "" := by
  have am : ∀ x, x ∈ srt (ddp ([9] ++ ps.map (·.1))) ↔ x ∈ 9 :: ps.map (·.1) := fun x => by rw [srt_mem, ddp_mem]; rfl
  have pos : ∀ x ∈ srt (ddp ([9] ++ ps.map (·.1))), 0 < x := fun x hx => by
    rcases List.mem_cons.mp ((am x).mp hx) with rfl | h
    · decide
    · obtain ⟨q, hq, rfl⟩ := List.mem_map.mp h
      have := (f.pin q hq).2
      simp only [List.mem_cons, List.not_mem_nil, or_false] at this
      omega
  have bt : st.boolB (.int 9) = true := by
    simp only [BS.boolB, Bool.and_eq_true, decide_eq_true_eq]; exact ⟨f.it, f.sort⟩
  have ft : st.op 9 ∈ FORMS := by rw [f.op]; decide
  refine ⟨rows_right bt ft pos (srt_nodup ddp_nodup) f.z fun kv hkv => ?_, pos, fun x hx way hw => (f.rows way hw).1 x ((am x).mp hx), fun q hq => ?_⟩
  · obtain ⟨way, hw, rfl⟩ := List.mem_map.mp hkv
    obtain ⟨a, b, c⟩ := f.rows way hw
    refine ⟨fun x hx => a x ((am x).mp hx), a 9 (.head _), b, fun ha => ?_⟩
    obtain ⟨line, hl, q1, q2⟩ := c ha
    refine ⟨line, hl, fun x hx => ?_, q2⟩
    have := q1 x hx
    unfold absI at this
    split at this
    · exact .inr ((am _).mpr this)
    · exact .inl ((am _).mpr this)
  · obtain ⟨m, e⟩ := f.pin q hq
    have wd2 : wd [-9, -q.1] = some [-9, -q.1] := by
      simp only [List.mem_cons, List.not_mem_nil, or_false] at e
      rcases e with e | e | e | e <;> rw [e] <;> rfl
    have : st.lets [-9, -q.1] 9 = true := List.any_eq_true.mpr ⟨_, m, by unfold hits; rw [wd2]; exact decide_eq_true rfl⟩
    show (if _ then _ else _) = _
    rw [if_pos ⟨bt, ft⟩, if_pos this]
section
variable {VB HB W0 : List Addr} {hst : Heap} {fd : Addr} {Ls : List Int} {n : Nat}
theorem lk603 : (KF w.params).lookup 603 = some o603 := by kernel_rfl
noncomputable abbrev eA (L0 : Addr) : Env := envOfC (S "_law_is_apart_right") (dScope (top 25)) L0 603 (.ref 602)
noncomputable def pr3 (q : Pr) : D := .tup [.int q.1, .int q.2.1, .int q.2.2]
noncomputable def tri (j : Nat) : Nat := if j = 0 then 0 else if j = 1 then 0 else if j = 2 then 1 else 3
theorem tri_at : ∀ j : Nat, j < 3 → tri (j + 1) = tri j + j ∧ ∀ i : Nat, i < j → tri j + i < 3 ∧ idx[tri j + i]! = (i, j) := by decide
noncomputable abbrev VA (is : List Int) (m : Nat) (l : Addr) (b fd : Addr) : List (Str × D) := [(S "t", .int 9), (S "some", .list (is.map .int)), (S "many", .int m), (S "pairs", .obj l), (S "things", .list (th.map .int)), (S "bank_now", .obj b), (S "feed", .obj fd)]
noncomputable def prD (p : Int × Int) : D := .tup [.int p.1, .int p.2]
theorem inj3 : ∀ a b, pr3 a = pr3 b → a = b := fun (a1, a2, a3) (b1, b2, b3) e => by unfold pr3 at e; injection e with e; injection e with e1 e; injection e with e2 e; injection e with e3 e; injection e1 with e1; injection e2 with e2; injection e3 with e3; cases e1; cases e2; cases e3; rfl
theorem inj_prD : ∀ a b, prD a = prD b → a = b := fun (a1, a2) (b1, b2) e => by unfold prD at e; injection e with e; injection e with e1 e; injection e with e2 e; injection e1 with e1; injection e2 with e2; cases e1; cases e2; rfl
noncomputable def lEs (is : List Int) (d : D) : List D := match tupL d with
  | [.int j, _] => (is.take j.toNat).map .int
  | _ => []
noncomputable def lF (d e : D) : D := match tupL d, e with
  | [_, .int b], .int a => .tup [.int (if b < a then b else a), .int (if b > a then b else a)]
  | _, _ => d
theorem late_eq {is : List Int} : ((enumD is).flatMap fun d => (lEs is d).map (lF d)) = (lateOf is).map prD := by
  unfold enumD lateOf
  rw [List.flatMap_map, List.map_flatMap]
  congr 1; funext j
  show ((is.take (j : Int).toNat).map D.int).map (lF _) = _
  rw [Int.toNat_natCast, List.map_map, List.map_map]
  rfl
theorem late_len {is : List Int} (h : is.length = 2 ∨ is.length = 3) : (lateOf is).length ≤ 9 := by
  rcases l23 h with ⟨x, y, e⟩ | ⟨x, y, z, e⟩
  · rw [e]; exact (by decide : 1 ≤ 9)
  · rw [e]; exact (by decide : 3 ≤ 9)
theorem way_len : ∀ way ∈ waysL 3, way.length = 3 := by decide
theorem home_get {way : List Int} (h : way.length = 3) : ∀ x ∈ th, tget (tmerge [] (zipA th way)) x = some (.int (home way x)) := by
  obtain ⟨a, b, c, rfl⟩ := l3e h
  exact all3 rfl rfl rfl
theorem rowP_len {ps : List Pr} {way : List Int} : (rowP ps way).length ≤ ps.length + 1 := by
  have : ∀ (l : List Pr) (kv : List (Int × At)), (l.foldl (fun kv q => tset kv q.1 (.bool (home way q.2.1 == home way q.2.2))) kv).length ≤ kv.length + l.length := fun l => by
    induction l with
    | nil => exact fun kv => Nat.le_refl _
    | cons p l ih =>
      intro kv
      refine Nat.le_trans (ih _) ?_
      have := tset_len (kv := kv) (k := p.1) (a := .bool (home way p.2.1 == home way p.2.2))
      simp only [List.length_cons]; omega
  refine Nat.le_trans (this ps _) ?_
  simp; omega
theorem rowP_succ {ps : List Pr} {way : List Int} {i : Nat} (h : i < ps.length) : rowP (ps.take (i + 1)) way = tset (rowP (ps.take i) way) ps[i].1 (.bool (home way ps[i].2.1 == home way ps[i].2.2)) := by
  unfold rowP; rw [List.take_succ_eq_append_getElem h, List.foldl_append]; rfl
theorem run_len {some : List Int} {cs : List Bool} : (run some cs).1.length ≤ 3 := by
  have : ∀ (l : List ((Nat × Nat) × Bool)) (σ : List Pr × BS), (l.foldl (stepP some) σ).1.length ≤ σ.1.length + l.length := fun l => by
    induction l with
    | nil => exact fun σ => Nat.le_refl _
    | cons p l ih =>
      intro σ
      refine Nat.le_trans (ih _) ?_
      have : (stepP some σ p).1.length ≤ σ.1.length + 1 := by
        unfold stepP; dsimp only; split
        · simp
        · omega
      simp only [List.length_cons]; omega
  refine Nat.le_trans (this (idx.zip cs) ([], st9 some)) ?_
  have : (idx.zip cs).length ≤ 3 := by rw [List.length_zip]; exact Nat.min_le_left _ _
  simpa using this
theorem AF.of2 {is : List Int} {cs : List Bool} {m : Nat} (ha : is.length = m) (cl : cs.length = tri m) (hp : ∀ x ∈ is, x ∈ th) (hm : m = 2 ∨ m = 3) : AF is (run is cs).1 (run is cs).2 := by
  refine AF.of ?_
  have two : ∀ c : Bool, c ∈ [true, false] := by decide
  rcases hm with rfl | rfl
  · obtain ⟨x, y, rfl⟩ := l2e ha
    obtain ⟨c, rfl⟩ := List.length_eq_one_iff.mp cl
    obtain ⟨h1, h2⟩ := mem2 hp
    exact check2 x h1 y h2 c (two c)
  · obtain ⟨x, y, z, rfl⟩ := l3e ha
    obtain ⟨h1, h2, h3⟩ := mem3 hp
    cases cs with
    | nil => cases cl
    | cons c r => cases r with
      | nil => cases cl
      | cons d r =>
        obtain ⟨e, rfl⟩ := List.length_eq_one_iff.mp (Nat.succ.inj (Nat.succ.inj cl))
        exact check3 x h1 y h2 z h3 c (two c) d (two d) e (two e)
noncomputable def Hid (p : Prop) : Prop := p
theorem apart_fn {vs : List Value} (g : Gd w mg mb hb) (e : Ext hb h) (hm : Rm A 9) (ws : Ws hb (fd :: a.V) HB W0) (dm : Dm W0 h) (j : LS w a fd Ls st8 n HB h) (hn : n ≤ 50) (rd : RdAll W0 h [.obj fd, .obj a.b, .list (th.map .int)] vs) :
    Mx w A h (PySem.call (.ref 603) vs) (fun v h' => v = .bool true ∧ ∃ st' n', (PT st' ∧ st'.ts.length ≤ 13) ∧ n' ≤ n + 9 ∧ Mv (fd :: a.V) h h' ∧ LS w a fd Ls st' n' HB h') := by
  refine Mx.enter (ps := [S "feed", S "bank_now", S "things"]) (H := W0) (h0 := hb) (k := 8) g e hm dm rd lk603 (by kernel_rfl) (args3 fun _ _ _ => rfl) rfl (fun n => rfl) (by decide) rfl rfl rfl (fun L0 A' h1 r F x1 fr => ?_)
  conv => arg 7; whnf
  refine Xs.hide fun PN PR kn kr => ?_
  have L := Lx.enter (J := LS w a fd Ls st8 n) LS.sta ws dm j x1 fr F
  generalize hHB : frA (envOfC (S "_law_is_apart_right") (dScope (top 25)) L0 603 (.ref 602)) ++ HB = HB' at L
  generalize hW : frA (envOfC (S "_law_is_apart_right") (dScope (top 25)) L0 603 (.ref 602)) ++ W0 = W at L
  have fHB : ∀ b ∈ frA (eA L0), b ∈ HB' := fun b hb => hHB ▸ List.mem_append_left _ hb
  have g1 := g.ext L.X.F.ext
  refine Xs.pair (h0 := hb) (vars := [(S "things", .list (th.map .int)), (S "bank_now", .obj a.b), (S "feed", .obj fd)]) (x1 := S "many") (x2 := S "pairs") (R1 := fun v h2 => ∃ m : Nat, (m = 2 ∨ m = 3) ∧ (∃ t, v = .int m t) ∧ Lx (fd :: a.V) HB' (LS w a fd Ls st8 (n + 1)) h1 (frA (eA L0)) hb W (eA L0) [(S "things", .list (th.map .int)), (S "bank_now", .obj a.b), (S "feed", .obj fd)] [] h2)
    (T := fun V W' os d1 d2 h2 => ∃ (m : Nat) (l : Addr), (m = 2 ∨ m = 3) ∧ d1 = .int m ∧ d2 = .obj l ∧ h1.get? l = none ∧ V = l :: frA (eA L0) ∧ W' = l :: W ∧ os = [(l, .list [])] ∧ l ∉ W ∧ l ∉ HB' ∧ Mv ((fd :: a.V) ++ (l :: frA (eA L0))) h1 h2 ∧ LS w a fd Ls st8 (n + 1) (l :: HB') h2)
    r.hd ?_ (fun v h2 p => ?_) (fun V W' os d1 d2 h2 h3 p X3 => ?_)
  · refine (Mx.binE (VB := fd :: a.V) (W := W) (a := .int 2) (b := fun x : Int => .int x) (d := fun x : Int => .int (2 + x)) (R := fun x h2 => 0 ≤ x ∧ x < 2 ∧ Lx (fd :: a.V) HB' (LS w a fd Ls st8 (n + 1)) h1 (frA (eA L0)) hb W (eA L0) [(S "things", .list (th.map .int)), (S "bank_now", .obj a.b), (S "feed", .obj fd)] [] h2) Ev.int (fun h2 x2 => ?_) (fun b hb => (L.vB b hb).1) (fun x h2 p => Bin.add)).imp fun v h' p => ?_
    · have L2 := L.up LS.sta x2
      refine (Lw.dip g L2.X.F L2.ws L2.j r (by omega) (many := 2) (by decide) L2.X.F.var Ev.int).imp fun v h' p => ?_
      obtain ⟨x, p1, p2, m, j, t, rfl⟩ := p
      exact ⟨m, x, ⟨p1, p2, L2.eff m j⟩, t, rfl⟩
    · obtain ⟨x, h2, ⟨p1, p2, L2⟩, m, x3, t, rfl⟩ := p
      refine ⟨(2 + x).toNat, by omega, ⟨t, by rw [Int.toNat_of_nonneg (by omega)]⟩, L2.up LS.sta x3⟩
  · obtain ⟨m, hm', ⟨t, rfl⟩, L2⟩ := p
    intro s Q E he k
    subst he
    refine Ev.emptyList fun h3 tk3 x3 p3 => k _ h3 tk3 ?_
    have ln : s.heap.get? s.heap.objs.size = none := get_new _
    have X3 := (L2.X.newL x3 ln p3).base
    have lW : s.heap.objs.size ∉ W := fun z => L2.X.F.dm _ z ln
    refine ⟨_, _, _, .int m, .obj s.heap.objs.size, X3, ⟨t, rfl⟩, rfl, m, s.heap.objs.size, hm', rfl, rfl, Mv.gone L2.mv ln, rfl, rfl, rfl, lW, fun z => lW (L2.hW _ z), (L2.mv.sub fun b hb => ?_).trans x3.mv, LS.sta L2.j (To.more x3 fun b hb => (List.mem_cons.mp hb).elim (fun z => .inr (z ▸ ln)) .inl)⟩
    exact (List.mem_append.mp hb).elim (fun z => List.mem_append_left _ z) fun z => List.mem_append_right _ (.tail _ z)
  obtain ⟨m, l, hm', rfl, rfl, ln, rfl, rfl, rfl, lW, lH, mv2, j2⟩ := p
  obtain ⟨hm2, hm3⟩ : 2 ≤ m ∧ m ≤ 3 := by omega
  have hm' : Hid (m = 2 ∨ m = 3) := hm'
  have L3 : Lx (fd :: a.V) (l :: HB') (LS w a fd Ls st8 (n + 1)) h1 (l :: frA (eA L0)) hb (l :: W) (eA L0) [(S "many", .int m), (S "pairs", .obj l), (S "things", .list (th.map .int)), (S "bank_now", .obj a.b), (S "feed", .obj fd)] [(l, .list [])] h3 := by
    refine ⟨X3.base, fun b hb => (List.mem_cons.mp hb).elim (fun z => .inr (z ▸ .head _)) fun z => (L.wB b z).imp id fun z => .tail _ z, fun b hb => ?_, fun b hb => (List.mem_cons.mp hb).elim (fun z => z ▸ .head _) fun z => .tail _ (L.hW b z), mv2.trans (X3.mv.sub fun b hb => List.mem_append_right _ hb), LS.sta j2 (To.mv X3.mv fun b hb => (List.mem_cons.mp hb).elim (fun z => z ▸ .head _) fun z => .tail _ (fHB b z))⟩
    obtain ⟨p1, p2, p3⟩ := L.vB b hb
    exact ⟨.tail _ p1, fun z => (List.mem_cons.mp z).elim (fun z => lW (z ▸ p1)) p2, p3⟩
  clear X3 j2 mv2
  have r5 := r.le (k' := 5) (by decide)
  refine Lx.asgE (Q := fun is : List Int => is.length = m ∧ ∀ x ∈ is, x ∈ th) (d := fun is : List Int => .list (is.map .int)) (J' := fun _ => LS w a fd Ls st8 (n + 1 + m)) (fun _ => LS.sta) L3
    ((Mx.lcM (J := fun i acc HB h => ∃ is : List Int, acc = is.map .int ∧ (∀ x ∈ is, x ∈ th) ∧ LS w a fd Ls st8 (n + 1 + i) HB h) (ds := (List.range m).map fun i => D.int (i : Nat)) (xs := [S "k"]) (pt := fun d => [d]) (fun i acc H h H' h' q t => by obtain ⟨is, a, b, c⟩ := q; exact ⟨is, a, b, LS.sta c t⟩) L3 (fun q => ⟨[], rfl, fun x hx => absurd hx List.not_mem_nil, q⟩)
    (Src.rangeN (g.ext L3.X.F.ext) r.hd L3.X.F.var (by omega) (by kernel_rfl) (by kernel_rfl)) (fun C I H' d hd hC => Binds.name rfl rfl hC) (fun C Dx I i d acc h4 hd ha j F' => ?_) (by rw [List.length_map, List.length_range]; omega)).imp fun v h' p => ?_) fun is h4 ⟨ha, hp⟩ L4 => ?_
  · obtain ⟨is, rfl, hp, j⟩ := j
    have hi := (range_get hd).1
    have W4 := ((L3.ws.cons I).cons Dx).cons C
    refine (Mx.itemM (VB := fd :: a.V) (ds := th.map .int) (R := fun _ h' => LS w a fd Ls st8 (n + 1 + i + 1) (C :: Dx :: I :: l :: HB') h') F'.var (fun h5 x5 => ?_) (fun b hb => (W4.vB b hb).1) (by decide)).imp fun v h' p => ?_
    · have F5 := F'.up x5
      refine (Lw.dip g F5 W4 (LS.sta j (To.ext x5)) r (by omega) (many := 3) (by decide) F5.var (Ev.lenL (ds := th.map .int) (g.ext F5.ext) (nmB (g.ext F5.ext) (by kernel_rfl) (by kernel_rfl)) (by decide) F5.var _)).imp fun v h' p => ?_
      obtain ⟨x, p1, p2, m, j, t, rfl⟩ := p
      exact ⟨x.toNat, ⟨t, by rw [Int.toNat_of_nonneg p1]⟩, by show x.toNat < 3; omega, m, j⟩
    · obtain ⟨k', d', hd', j', m', rv⟩ := p
      obtain ⟨hk', rfl⟩ := at_i hd'
      refine ⟨m', _, rv, is ++ [th[k']], by simp, fun x hx => ?_, j'⟩
      rcases List.mem_append.mp hx with hx | hx
      · exact hp x hx
      · rw [List.mem_singleton.mp hx]; exact List.getElem_mem _
  · obtain ⟨acc, ha, mv, ⟨is, rfl, hp, j⟩, rv⟩ := p
    rw [List.length_map, List.length_map, List.length_range] at ha
    rw [List.length_map, List.length_range] at j
    exact ⟨is, ⟨ha, hp⟩, mv, j, rv⟩
  have th8 : ∀ t ∈ is, st8.is t ∧ st8.sort t = 3 := fun t ht => PT.s8.thing t (hp t ht)
  refine Lx.asgD (d := .int 9) (J' := LS w a fd Ls (st9 is) (n + 1 + m)) LS.sta L4 ((Lw.meth g L4.X.F L4.ws L4.j (r.le (by decide)) L4.X.F.var (.cons L4.X.F.var .nil rfl) (distinct_of_fn (l := is) g (by decide) th8 (by omega) (by omega)) (by kernel_rfl)).imp fun v h' p => ?_) fun h5 L5 => ?_
  · rw [made9.1, made9.2] at p
    exact p
  refine Lx.forS (σ := List Bool × Nat) (Jσ := fun s => LS w a fd Ls (run is s.1).2 s.2) (oσ := fun s => [(l, .list ((run is s.1).1.map pr3))]) (Inv := fun j s => s.1.length = tri j ∧ s.2 ≤ n + 1 + m + tri j) (B := fun d => [(S "j", d)]) (vs := VA is m l a.b fd) (s0 := ([], n + 1 + m)) (fun s => LS.sta) L5
    (Src.rangeN (g.ext L5.X.F.ext) r.hd L5.X.F.var (by omega) (by kernel_rfl) (by kernel_rfl)) Tg.name ⟨rfl, Nat.le_refl _⟩ ⟨rfl, rfl, rfl, rfl, rfl, rfl, rfl, trivial⟩ (fun s => rfl) (fun I j d h6 s nI hd iv L6 => ?_) (fun h6 s iv L6 => ?_)
  · refine Xs.hideN fun PN kn => ?_
    obtain ⟨hj, rfl⟩ := range_get hd
    obtain ⟨tj, ti⟩ := tri_at j (by omega)
    refine Lx.forS (σ := List Bool × Nat) (Jσ := fun s => LS w a fd Ls (run is s.1).2 s.2) (oσ := fun s => [(l, .list ((run is s.1).1.map pr3))]) (Inv := fun i s => s.1.length = tri j + i ∧ s.2 ≤ n + 1 + m + tri j + i) (B := fun d => [(S "i", d)]) (vs := (S "j", .int j) :: VA is m l a.b fd) (s0 := s) (fun s => LS.sta) L6
      (Src.rangeN (g.ext L6.X.F.ext) r.hd L6.X.F.var (by omega) (by kernel_rfl) (by kernel_rfl)) Tg.name iv ⟨rfl, rfl, rfl, rfl, rfl, rfl, rfl, rfl, trivial⟩ (fun s => rfl) (fun I2 i d h7 s7 nI2 hd2 iv7 L7 => ?_) (fun h7 s7 iv7 L7 => ?_)
    · refine Xs.hideN fun PN kn => ?_
      obtain ⟨hi, rfl⟩ := range_get hd2
      obtain ⟨t3, ix⟩ := ti i hi
      obtain ⟨il, inn⟩ := iv7
      have ha2 : is[i]! ∈ th := by rw [getElem!_pos is i (by omega)]; exact hp _ (List.getElem_mem _)
      have hb2 : is[j]! ∈ th := by rw [getElem!_pos is j (by omega)]; exact hp _ (List.getElem_mem _)
      obtain ⟨pt, pl⟩ := run_pt (some := is) (cs := s7.1)
      have sn := fun c => run_snoc (some := is) (c := c) (show s7.1.length < 3 by omega)
      rw [il, ix] at sn
      have L7 : Lx (fd :: a.V) (I2 :: I :: l :: HB') (LS w a fd Ls (run is s7.1).2 s7.2) h7 (l :: frA (eA L0)) hb (I2 :: I :: l :: W) (eA L0) ((S "i", .int i) :: (S "j", .int j) :: VA is m l a.b fd) [(l, .list ((run is s7.1).1.map pr3))] h7 := L7
      have up7 : ∀ {h8 : Heap}, Ext h7 h8 → Lx (fd :: a.V) (I2 :: I :: l :: HB') (LS w a fd Ls (run is s7.1).2 s7.2) h7 (l :: frA (eA L0)) hb (I2 :: I :: l :: W) (eA L0) ((S "i", .int i) :: (S "j", .int j) :: VA is m l a.b fd) [(l, .list ((run is s7.1).1.map pr3))] h8 := fun x8 => L7.up LS.sta x8
      have ei : ∀ {h8 : Heap} {p1 p2 p3 : Pos}, Fm hb (I2 :: I :: l :: W) (eA L0) ((S "i", .int i) :: (S "j", .int j) :: VA is m l a.b fd) h8 → Ev w A' (I2 :: I :: l :: W) (eA L0) h8 (.Subscript (.Name (S "some") p1) (.Name (S "i") p2) p3) (.int is[i]!) := fun F8 =>
        Ev.itemL (k := i) (ds := is.map .int) F8.var F8.var (by omega) (get_int (by omega)) (by omega)
      have ej : ∀ {h8 : Heap} {p1 p2 p3 : Pos}, Fm hb (I2 :: I :: l :: W) (eA L0) ((S "i", .int i) :: (S "j", .int j) :: VA is m l a.b fd) h8 → Ev w A' (I2 :: I :: l :: W) (eA L0) h8 (.Subscript (.Name (S "some") p1) (.Name (S "j") p2) p3) (.int is[j]!) := fun F8 =>
        Ev.itemL (k := j) (ds := is.map .int) F8.var F8.var (by omega) (get_int (by omega)) (by omega)
      refine Xs.iteM (R := fun b h9 => ∃ n', n' ≤ s7.2 + 1 ∧ (b = false → is[i]! ≠ is[j]!) ∧ Lx (fd :: a.V) (I2 :: I :: l :: HB') (LS w a fd Ls (run is s7.1).2 n') h7 (l :: frA (eA L0)) hb (I2 :: I :: l :: W) (eA L0) ((S "i", .int i) :: (S "j", .int j) :: VA is m l a.b fd) [(l, .list ((run is s7.1).1.map pr3))] h9)
        (PN' := fun h9 => ∃ s' : List Bool × Nat, (s'.1.length = tri j + (i + 1) ∧ s'.2 ≤ n + 1 + m + tri j + (i + 1)) ∧ Lx (fd :: a.V) (I2 :: I :: l :: HB') (LS w a fd Ls (run is s'.1).2 s'.2) h7 (l :: frA (eA L0)) hb (I2 :: I :: l :: W) (eA L0) ((S "i", .int i) :: (S "j", .int j) :: VA is m l a.b fd) [(l, .list ((run is s'.1).1.map pr3))] h9)
        (Et.orM (p := is[i]! == is[j]!) (Et.cmp (ei L7.X.F) (ej L7.X.F) Cm.eqI) (fun h8 x8 q => ?_) (fun h8 x8 q => ⟨s7.2, Nat.le_succ _, fun z => absurd z (by decide), up7 x8⟩)) (fun b h9 p => ?_) (fun h9 p => ?_)
      · have L8 := up7 x8
        refine (Mx.gtM (b := 0) (H := I2 :: I :: l :: W) (R1 := fun x h9 => Lx (fd :: a.V) (I2 :: I :: l :: HB') (LS w a fd Ls (run is s7.1).2 (s7.2 + 1)) h7 (l :: frA (eA L0)) hb (I2 :: I :: l :: W) (eA L0) ((S "i", .int i) :: (S "j", .int j) :: VA is m l a.b fd) [(l, .list ((run is s7.1).1.map pr3))] h9) ((Lw.dip g L8.X.F L8.ws L8.j r (by omega) (many := 4) (by decide) L8.X.F.var Ev.int).imp fun v h' p => ?_) (fun x h9 p => Ev.int)).imp fun c h' p => ?_
        · obtain ⟨x, p1, p2, m, j, t, rfl⟩ := p
          exact ⟨x, L8.eff m j, t, rfl⟩
        · obtain ⟨x, h9, L9, x9, _⟩ := p
          exact ⟨s7.2 + 1, Nat.le_refl _, fun _ z => by rw [z] at q; simp at q, L9.up LS.sta x9⟩
      · obtain ⟨n', hn', hne, L9⟩ := p
        cases b with
        | false =>
          refine Xs.nil ⟨(s7.1 ++ [false], n'), ⟨by simp; omega, by show n' ≤ _; omega⟩, ?_⟩
          have : run is (s7.1 ++ [false]) = run is s7.1 := by
            rw [sn false]; unfold stepP; dsimp only
            rw [if_neg (by simpa using hne rfl)]
          show Lx _ _ (LS w a fd Ls (run is (s7.1 ++ [false])).2 n') _ _ _ _ _ _ [(l, .list ((run is (s7.1 ++ [false])).1.map pr3))] _
          rw [this]; exact L9
        | true =>
          have rs : run is (s7.1 ++ [true]) = ((run is s7.1).1 ++ [((run is s7.1).2.eqN is[i]! is[j]!, is[i]!, is[j]!)], (run is s7.1).2.eqd is[i]! is[j]!) := by
            rw [sn true]; unfold stepP; dsimp only
            rw [if_pos (.inr rfl)]
          have rl := run_len (some := is) (cs := s7.1)
          have ia := pt.thing _ ha2
          have ib := pt.thing _ hb2
          refine Lx.appendM (P := fun d J' => d = pr3 ((run is s7.1).2.eqN is[i]! is[j]!, is[i]!, is[j]!) ∧ J' = LS w a fd Ls ((run is s7.1).2.eqd is[i]! is[j]!) n') LS.sta (fun d J' p => p.2 ▸ LS.sta) L9 L9.X.F.var (fun h10 x10 L10 => ?_) (by rw [List.length_map]; omega) (fun d J' h10 p L10 => ?_)
          · refine (Mx.tupF (W := I2 :: I :: l :: W) (d := .int ((run is s7.1).2.eqN is[i]! is[j]!)) (ds := [.int is[i]!, .int is[j]!]) (R := fun h11 => Mv (fd :: a.V) h10 h11 ∧ Lx (fd :: a.V) (I2 :: I :: l :: HB') (LS w a fd Ls ((run is s7.1).2.eqd is[i]! is[j]!) n') h7 (l :: frA (eA L0)) hb (I2 :: I :: l :: W) (eA L0) ((S "i", .int i) :: (S "j", .int j) :: VA is m l a.b fd) [(l, .list ((run is s7.1).1.map pr3))] h11)
              ((Lw.meth g L10.X.F L10.ws L10.j (r.le (by decide)) L10.X.F.var (.cons (ei L10.X.F) (.cons (ej L10.X.F) .nil rfl) rfl) (eq_fn g (by omega) ia.1 ib.1 (ib.2.trans ia.2.symm)) (by kernel_rfl)).imp fun v h' p => ⟨⟨p.1, L10.eff p.1 p.2.1⟩, p.1.dm L10.X.F.dm, p.2.2⟩) (fun h11 q => .cons (ei q.2.X.F) (.cons (ej q.2.X.F) .nil rfl) rfl) (fun _ => rfl) (by simp)).imp fun v h' p => ?_
            obtain ⟨h11, ⟨m11, L11⟩, x11, rv⟩ := p
            exact ⟨_, _, ⟨rfl, rfl⟩, m11.trans x11.mv, (L11.up LS.sta x11).j, rv⟩
          · obtain ⟨rfl, rfl⟩ := p
            refine Xs.nil ⟨(s7.1 ++ [true], n'), ⟨by simp; omega, by show n' ≤ _; omega⟩, ?_⟩
            show Lx _ _ (LS w a fd Ls (run is (s7.1 ++ [true])).2 n') _ _ _ _ _ _ [(l, .list ((run is (s7.1 ++ [true])).1.map pr3))] _
            rw [rs]; dsimp only; rw [List.map_append]
            exact L10
      · obtain ⟨s', q, L9⟩ := p
        exact Xs.nil (kn _ ⟨s', _, q, L9, ⟨rfl, rfl, rfl, rfl, rfl, rfl, rfl, rfl, trivial⟩⟩)
    · rw [List.length_map, List.length_range] at iv7
      exact Xs.nil (kn _ ⟨s7, _, ⟨by rw [tj]; exact iv7.1, by rw [tj]; omega⟩, L7, ⟨rfl, rfl, rfl, rfl, rfl, rfl, rfl, trivial⟩⟩)
  obtain ⟨cl, cn⟩ := iv
  rw [List.length_map, List.length_range] at cl cn
  have af : AF is (run is s.1).1 (run is s.1).2 := by
    exact AF.of2 ha cl hp hm'
  have pt := (run_pt (some := is) (cs := s.1))
  have pl3 := run_len (some := is) (cs := s.1)
  generalize (run is s.1).1 = ps at af L6 pl3
  generalize (run is s.1).2 = st' at af L6 pt
  obtain ⟨_, n'⟩ := s
  have cn : n' ≤ n + 9 := by
    have : tri m ≤ 3 := by rcases (show m = 2 ∨ m = 3 from hm') with rfl | rfl <;> decide
    have : n' ≤ n + 1 + m + tri m := cn
    omega
  have L6 : Lx (fd :: a.V) (l :: HB') (LS w a fd Ls st' n') h1 (l :: frA (eA L0)) hb (l :: W) (eA L0) (VA is m l a.b fd) [(l, .list (ps.map pr3))] h6 := L6
  clear cl L5 L4 L3
  have g6 := g.ext L6.X.F.ext
  have fVl : l ∉ frA (eA L0) := fun z => lW (L.X.F.inW _ z)
  refine Xx.asgX L6.X (Mx.checker (k := 6) g6 L6.X.F.dm (r.le (by decide)) (.cons L6.X.F.var (.cons (Ev.list L6.X.F.dm (.cons Ev.int (.cons L6.X.F.var .nil rfl) rfl)) (.cons (Ev.list L6.X.F.dm .nil) (.cons (Ev.list L6.X.F.dm .nil) .nil rfl) rfl) rfl) rfl)) fun d h7 h8 p x7 m8 X8 => ?_
  obtain ⟨c, rfl, hc⟩ := p
  have fW : ∀ b ∈ frA (eA L0), h6.get? b ≠ none := fun b hb => L6.X.F.dm b (L6.X.F.inW b hb)
  have j8 : LS w a fd Ls st' n' HB' h8 := LS.sta L6.j fun b o nb eb => ⟨fun z => nb (.tail _ z), m8.off b o (fun z => nb (.tail _ (fHB b z))) (x7 b o eb)⟩
  have fdW : fd ∈ l :: W ∧ fd ≠ l := ⟨(L6.vB fd (.head _)).1, fun z => (L6.vB fd (.head _)).2.1 (z ▸ .head _)⟩
  obtain ⟨hv, off, xv, xb, tv, Fv⟩ := X8.F.rebase (W' := fd :: HB') (fun b hb => (List.mem_cons.mp hb).elim (fun z => z ▸ fdW.1) fun z => .tail _ (L.hW b z)) (fun b hb => .tail _ (fHB b hb))
  have jv : LS w a fd Ls st' n' HB' hv := LS.sta j8 fun b o nb e => ⟨nb, by rw [off b fun z => nb (fHB b z)]; exact e⟩
  have bk : Bk w (fd :: HB') a st' hv := jv.1
  have ck : Ck hv c a.b := hc hv fun b o nb eb => by
    have nf : b ∉ frA (eA L0) := fun z => fW b z nb
    rw [off b nf]; exact m8.off b o nf eb
  have gv := g.ext xb
  have Fv := (Fv.retype (x := S "pairs") (d := .list (ps.map pr3)) rfl (OL.rd (X8.own _ (.head _)).1 (fun z => (List.mem_cons.mp z).elim (fun z => fdW.2 z.symm) lH) fun b hb => (List.mem_cons.mp hb).elim (fun z => z ▸ fdW.1) fun z => .tail _ (L.hW b z))).pick (vs := [(S "pairs", .list (ps.map pr3)), (S "checker_now", .obj c), (S "t", .int 9), (S "some", .list (is.map .int)), (S "things", .list (th.map .int)), (S "bank_now", .obj a.b)]) ⟨rfl, rfl, rfl, rfl, rfl, rfl, trivial⟩
  have fin : ∀ {h' : Heap}, Ext hv h' → ∃ st' n', (PT st' ∧ st'.ts.length ≤ 13) ∧ n' ≤ n + 9 ∧ Mv (fd :: a.V) h h' ∧ LS w a fd Ls st' n' HB h' := fun {h'} x => by
    refine ⟨st', n', ⟨pt.1, Nat.le_succ_of_le pt.2⟩, cn, ?_, LS.sta jv fun b o nb eb => ⟨fun z => nb (hHB ▸ List.mem_append_right _ z), x b o eb⟩⟩
    intro b o eb
    have e1 := x1 b o eb
    obtain ⟨o2, e2, q2⟩ := L6.mv b o e1
    have nf : b ∉ frA (eA L0) := fun z => by rw [fr b z] at eb; cases eb
    have nl : b ≠ l := fun z => by rw [z, ln] at e1; cases e1
    exact ⟨o2, x b o2 (by rw [off b nf]; exact m8.off b o2 nf (x7 b o2 e2)), fun nV => q2 fun z => (List.mem_append.mp z).elim nV fun z => (List.mem_cons.mp z).elim nl nf⟩
  clear X8 L6 j8 hc m8 x7 fW jv rd tv
  have X9 := Fx.of Fv
  generalize hW' : fd :: HB' = W' at *
  have g9 := gv.ext X9.F.ext
  refine Xx.asgC2 (es := lEs is) (f := lF) (xs1 := [S "j", S "b"]) (pt1 := tupL) X9 (Src2.enum (xs := [(S "j", _), (S "b", _)]) g9 r.hd X9.F.var (fun _ => rfl) (fun C x hx => ?_) (by decide) rfl (fun _ => rfl)) (fun C H' d h₂ hd x mo F' => ?_) (fun C H' d e' h₂ hd he x mo F' => ?_) (by unfold enumD; rw [List.length_map, List.length_range]; omega) (fun d hd => ?_) fun h10 X10 => ?_
  · revert x hx; exact all2 rfl rfl
  · obtain ⟨j, hj, rfl⟩ := List.mem_map.mp hd
    show Src _ _ _ _ _ _ ((is.take (j : Int).toNat).map .int)
    rw [Int.toNat_natCast, List.map_take]
    exact Src.list r.hd (Ev.sliceTo (k := j) F'.dm F'.var F'.var (by rw [List.length_map]; omega))
  · obtain ⟨j, hj, rfl⟩ := List.mem_map.mp hd
    obtain ⟨a', _, rfl⟩ := List.mem_map.mp he
    have g10 := g9.ext x
    exact Ev.tup F'.dm (.cons (Ev.callN g10 (by kernel_rfl) (by kernel_rfl) (.cons F'.var (.cons F'.var .nil rfl) rfl) (CB.min r.hd)) (.cons (Ev.callN g10 (by kernel_rfl) (by kernel_rfl) (.cons F'.var (.cons F'.var .nil rfl) rfl) (CB.max r.hd)) .nil rfl) rfl)
  · obtain ⟨j, hj, rfl⟩ := List.mem_map.mp hd
    show ((is.take (j : Int).toNat).map _).length ≤ 50
    rw [List.length_map, List.length_take]; omega
  rw [late_eq] at X10
  have ll : (lateOf is).length ≤ 9 := late_len (by omega)
  have g10 := gv.ext X10.F.ext
  have b10 := bk.in_ X10.F.ext (fun b hb => .inl hb)
  refine Xx.asg (d := .bool (hasAll st' is)) X10 (Ev.cast (Ev.cmp (Ev.lcG (ι := prD) (l := lateOf is) (p := fun p => !(p.1 == p.2) && (numOf st'.ts (S "=", [p.1, p.2], 0, 0) == 0)) (g := prD) (xs := [S "pair"]) (pt := fun b => [prD b]) inj_prD X10.F (Src.list r.hd X10.F.var) (fun C I H' b hb hC => Binds.name rfl rfl hC) (fun C H' b h₂ hb x mo F' => ?_) (fun C H' b h₂ hb hp x mo F' => F'.var) (Nat.le_trans ll (by decide))) (Ev.list X10.F.dm .nil) (Cm.eqNil r.uni)) ?_) fun h11 X11 => ?_
  · have g11 := g10.ext x
    have b11 := b10.in_ x (fun b hb => mo b hb)
    have pv : ∀ {p : Pos}, Ev w A' H' _ h₂ (.Name (S "pair") p) (.tup ([b.1, b.2].map .int)) := fun {p} => F'.var
    refine oneTest (Et.and2 (Et.cmp (Ev.tupAt (k := 0) pv Ev.int (by simp) (by simp)) (Ev.tupAt (k := 1) pv Ev.int (by simp) (by simp)) Cm.neI) fun z => Et.cmp (Ev.meth g11 r F'.var b11.ob.ob (.cons Ev.str (.cons pv (.cons (Ev.BOOL g11) (.cons Ev.int .nil rfl) rfl) rfl) rfl) ((find_fn (k := (S "=", [b.1, b.2], 0, 0)) g11 F'.dm b11 (by kernel_rfl)).le (by decide)) rfl (by kernel_rfl)) Ev.int Cm.eqI)
  · unfold hasAll
    congr 1
    rw [Bool.eq_iff_iff, List.isEmpty_iff, List.map_eq_nil_iff, List.filter_eq_nil_iff, List.all_eq_true]
    refine forall_congr' fun p => forall_congr' fun _ => ?_
    cases p.1 == p.2 <;> cases numOf st'.ts (S "=", [p.1, p.2], 0, 0) == 0 <;> decide
  have X11 := X11.pick (vs := [(S "has_all", .bool (hasAll st' is)), (S "late", .list ((lateOf is).map prD)), (S "pairs", .list (ps.map pr3)), (S "checker_now", .obj c), (S "t", .int 9), (S "things", .list (th.map .int)), (S "bank_now", .obj a.b)]) ⟨rfl, rfl, rfl, rfl, rfl, rfl, rfl, trivial⟩
  refine Xx.newList X11 fun l2 h12 ln2 X12 => ?_
  have g12 := gv.ext X12.F.ext
  have pth := af.pth
  have lth := af.lth
  refine Xx.forIn (B := fun d => [(S "way", d)]) (vs := fun i => [(S "rows", .obj l2), (S "has_all", .bool (hasAll st' is)), (S "late", .list ((lateOf is).map prD)), (S "pairs", .list (ps.map pr3)), (S "checker_now", .obj c), (S "t", .int 9), (S "things", .list (th.map .int)), (S "bank_now", .obj a.b)])
    (oo := fun i => [(l2, .list (((waysL 3).take i).map fun w => D.tab (rowA is ps w)))]) X12 (Src.list r.hd (ds := (waysL 3).map LL) (Ev.call g12 r (Ev.fn g12 (by kernel_rfl)) (by kernel_rfl) (.cons (Ev.cast (Ev.callN g12 (by kernel_rfl) (by kernel_rfl) (.cons X12.F.var .nil rfl) (CB.lenL (by decide))) (d' := .int 3) rfl) .nil rfl) ((ways_fn g12 X12.F.dm).le (by decide)))) Tg.name ⟨rfl, rfl, rfl, rfl, rfl, rfl, rfl, rfl, trivial⟩ rfl (fun i => rfl) ?_ ?_
  · intro I i d h13 nI hd X13
    refine Xs.hideN fun PN kn => ?_
    rw [List.getElem?_map] at hd
    obtain ⟨way, hway, rfl⟩ : ∃ way, (waysL 3)[i]? = some way ∧ d = LL way := by
      cases q : (waysL 3)[i]? with
      | none => rw [q] at hd; cases hd
      | some x => rw [q] at hd; cases hd; exact ⟨x, rfl, rfl⟩
    obtain ⟨hi, hway'⟩ := List.getElem?_eq_some_iff.mp hway
    have hm3 := List.mem_of_getElem? hway
    have wl := way_len way hm3
    have g13 := gv.ext X13.F.ext
    refine Xx.ownDict X13 (dictZip g13 r.hd X13.F.var (X13.F.var (d := .list (way.map .int))) (by rw [wl]; rfl) (by decide)) fun dh h14 dn X14 => ?_
    have g14 := gv.ext X14.F.ext
    have nW : ∀ b, b ∈ dh :: I :: l2 :: W' → b ∈ W' ∨ hv.get? b = none := new_cons (new_cons (new_cons (fun b hb => .inl hb) (X11.F.ext.gone ln2)) (X12.F.ext.gone nI)) (X13.F.ext.gone dn)
    have b14 := bk.in_ X14.F.ext nW
    refine Xx.ownDict X14 (dictLit1 (i1 := 1) (a1 := .bool true) g14 (Ev.meth g14 r X14.F.var b14.ob.ob (.cons Ev.cbool .nil rfl) ((bool_fn g14 X14.F.dm b14).le (by decide)) rfl (by kernel_rfl)) Ev.cbool) fun dt h15 tn X15 => ?_
    have e0 : tmerge [] [((1 : Int), At.bool true)] = rowP (ps.take 0) way := rfl
    rw [e0] at X15
    refine Xx.forIn (B := fun d => ([S "e", S "a", S "b"].zip (tupL d)).reverse) (vs := fun k => [(S "truth_of", .obj dt), (S "home", .obj dh), (S "rows", .obj l2), (S "has_all", .bool (hasAll st' is)), (S "late", .list ((lateOf is).map prD)), (S "pairs", .list (ps.map pr3)), (S "checker_now", .obj c), (S "t", .int 9), (S "things", .list (th.map .int)), (S "bank_now", .obj a.b)])
      (oo := fun k => [(dt, .dict (rowP (ps.take k) way)), (dh, .dict (tmerge [] (zipA th way))), (l2, .list (((waysL 3).take i).map fun w => D.tab (rowA is ps w)))]) X15 (Src.list r.hd X15.F.var) (Tg.tup (xs := [(S "e", _), (S "a", _), (S "b", _)]) r.hd (fun d hd => ?_) (fun x hx => ?_) rfl) ⟨rfl, rfl, rfl, rfl, rfl, rfl, rfl, rfl, rfl, rfl, trivial⟩ rfl (fun k => rfl) ?_ ?_
    · obtain ⟨q, _, rfl⟩ := List.mem_map.mp hd
      exact ⟨_, rfl, rfl, rfl⟩
    · revert x hx; exact all3 rfl rfl rfl
    · intro I2 k d2 h16 nI2 hd2 X16
      refine Xs.hideN fun PN kn => ?_
      rw [List.getElem?_map] at hd2
      obtain ⟨q, hq, rfl⟩ : ∃ q, ps[k]? = some q ∧ d2 = pr3 q := by
        cases y : ps[k]? with
        | none => rw [y] at hd2; cases hd2
        | some x => rw [y] at hd2; cases hd2; exact ⟨x, rfl, rfl⟩
      obtain ⟨hk, hq'⟩ := List.getElem?_eq_some_iff.mp hq
      obtain ⟨q1, q2⟩ := pth q (List.mem_of_getElem? hq)
      have tabH := (X16.own _ (.tail _ (.head _))).1.1
      refine Xx.setItem (a := .bool (home way q.2.1 == home way q.2.2)) (k := q.1) X16 (Ev.cmp (Ev.dictGet (a := .int _) X16.F.var tabH X16.F.var (home_get wl _ q1)) (Ev.dictGet (a := .int _) X16.F.var tabH X16.F.var (home_get wl _ q2)) Cm.eqI) X16.F.var X16.F.var ?_ fun h17 X17 => ?_
      · have := rowP_len (ps := ps.take k) (way := way)
        have := List.length_take_le k ps
        omega
      · refine Xs.nil (kn _ ?_)
        show ∃ N vars', _ ∧ Fx _ _ _ _ _ _ [(dt, .dict (rowP (ps.take (k + 1)) way)), _, _] _ ∧ _
        rw [rowP_succ hk, hq']
        exact turn0 X17 ⟨rfl, rfl, rfl, rfl, rfl, rfl, rfl, rfl, rfl, rfl, trivial⟩
    · intro h16 X16
      rw [List.length_map, List.take_length] at X16
      have tabH := (X16.own _ (.tail _ (.head _))).1.1
      refine Xx.setItem (a := .bool ((lateOf is).all fun p => !(home way p.1 == home way p.2))) (k := 9) X16 (Ev.cast (Ev.cmp (Ev.lcG (ι := prD) (l := lateOf is) (p := fun p => home way p.1 == home way p.2) (g := fun _ => .int 1) (xs := [S "a", S "b"]) (pt := fun b => [.int b.1, .int b.2]) inj_prD X16.F (Src.list r.hd X16.F.var) (fun C I H' b hb hC => ?_) (fun C H' b h₂ hb x mo F' => ?_) (fun C H' b h₂ hb hp x mo F' => Ev.int) (Nat.le_trans ll (by decide))) (Ev.list X16.F.dm .nil) (Cm.eqNil r.uni)) ?_) X16.F.var X16.F.var ?_ fun h17 X17 => ?_
      · exact Binds.tup (xs := [(S "a", _), (S "b", _)]) r.hd rfl hC rfl (all2 rfl rfl) (by decide) rfl rfl
      · obtain ⟨q1, q2⟩ := lth b hb
        exact oneTest (Et.cmp (Ev.dictGet (a := .int _) F'.var (tabH.at fun o q => x _ o q) F'.var (home_get wl _ q1)) (Ev.dictGet (a := .int _) F'.var (tabH.at fun o q => x _ o q) F'.var (home_get wl _ q2)) Cm.eqI)
      · show D.bool _ = D.bool _
        congr 1
        rw [Bool.eq_iff_iff, List.isEmpty_iff, List.map_eq_nil_iff, List.filter_eq_nil_iff, List.all_eq_true]
        refine forall_congr' fun p => forall_congr' fun _ => ?_
        cases home way p.1 == home way p.2 <;> decide
      · have := rowP_len (ps := ps) (way := way)
        omega
      have X18 := Fx.freezeD (x := S "truth_of") X17 rfl (fun z => X14.F.dm _ z tn) (Mv.gone X14.mv tn) X14.inV X14.vW (fun p hp => by
        rcases List.mem_cons.mp hp with rfl | hp
        · exact .head _
        · rw [List.mem_singleton.mp hp]; exact .tail _ (.head _))
      have X19 := X18.perm (os' := [(l2, .list (((waysL 3).take i).map fun w => D.tab (rowA is ps w))), (dh, .dict (tmerge [] (zipA th way)))]) (List.Perm.swap _ _ _)
      refine Xx.append (d := .tab (rowA is ps way)) X19 X19.F.var X19.F.var (by rw [List.length_map, List.length_take]; have : (waysL 3).length = 5 := rfl; omega) fun h20 X20 => ?_
      refine Xs.nil (kn _ ?_)
      show ∃ N vars', _ ∧ Fx _ _ _ _ _ _ [(l2, .list (((waysL 3).take (i + 1)).map fun w => D.tab (rowA is ps w)))] _ ∧ _
      rw [List.take_succ_eq_append_getElem hi, hway', List.map_append]
      exact ⟨[dh], _, fun b hb => by rw [List.mem_singleton.mp hb]; exact dn, ⟨X20.F, fun p hp => X20.own p (by rw [List.mem_singleton.mp hp]; exact .head _), by simp, X20.inV, X20.vW, X20.mv⟩, ⟨rfl, rfl, rfl, rfl, rfl, rfl, rfl, rfl, trivial⟩⟩
  · intro h13 X13
    rw [List.length_map, List.take_length] at X13
    have X13 := Fx.freezeL (x := S "rows") X13 rfl (fun z => X11.F.dm _ z ln2) (Mv.gone X11.mv ln2) X11.inV X11.vW (fun p hp => absurd hp List.not_mem_nil)
    have rows : ((waysL 3).map fun w => D.tab (rowA is ps w)) = ((waysL 3).map (rowA is ps)).map .tab := by rw [List.map_map]; rfl
    rw [rows] at X13
    have g13 := gv.ext X13.F.ext
    have t3 : ∀ (C : Addr) (H' : List Addr) (cenv : Env) (I : Addr) (q : Pr) (n1 : Nat) (tp p1 p2 p3 : Pos), C ∈ H' → cenv.locals = C → cenv.scope.kind = .function → (∀ x ∈ [S "e", S "a", S "b"], cenv.kindOf x = some .local) → assignEach [.Name (S "e") p1, .Name (S "a") p2, .Name (S "b") p3] cenv = [(false, assign (.Name (S "e") p1) cenv), (false, assign (.Name (S "a") p2) cenv), (false, assign (.Name (S "b") p3) cenv)] → Binds w A' H' cenv (.Tuple [.Name (S "e") p1, .Name (S "a") p2, .Name (S "b") p3] n1 tp) I (pr3 q) (fun m h' => Bd H' m h' [S "e", S "a", S "b"] [.int q.1, .int q.2.1, .int q.2.2]) := fun C H' cenv I q n1 tp p1 p2 p3 hC hl hk hloc hea =>
      Binds.tup (xs := [(S "e", p1), (S "a", p2), (S "b", p3)]) r.hd hk (hl ▸ hC) rfl (all3 (hloc _ (.head _)) (hloc _ (.tail _ (.head _))) (hloc _ (.tail _ (.tail _ (.head _))))) (show [S "e", S "a", S "b"].Nodup by decide) rfl hea
    have k3 : ∀ (cenv : Env), cenv.kindOf (S "e") = some .local → cenv.kindOf (S "a") = some .local → cenv.kindOf (S "b") = some .local → ∀ x ∈ [S "e", S "a", S "b"], cenv.kindOf x = some .local := fun cenv a b c => all3 a b c
    obtain ⟨bl, pos, tot, flt⟩ := apart_law af
    have psl : ps.length ≤ 3 := pl3
    refine Xx.asg (d := .list ((srt (ddp ([9] ++ ps.map (·.1)))).map .int)) X13 (Ev.sortedSet g13 X13.F.dm r.hd (Ev.cast (Ev.bin (Ev.list X13.F.dm (.cons X13.F.var .nil rfl)) (Ev.lcG (ι := pr3) (l := ps) (p := fun _ => true) (g := fun b => .int b.1) (xs := [S "e", S "a", S "b"]) (pt := fun b => [.int b.1, .int b.2.1, .int b.2.2]) inj3 X13.F (Src.list r.hd X13.F.var) (fun C I H' b hb hC => t3 C H' _ I b _ _ _ _ _ hC rfl rfl (k3 _ rfl rfl rfl) rfl) (fun C H' b h₂ hb x mo F' => noTest (b := true)) (fun C H' b h₂ hb hp x mo F' => F'.var) (Nat.le_trans psl (by decide))) (Bin.cat X13.F.dm ?_)) ?_) ?_ af.fine) fun h14 X14 => ?_
    · rw [filter_all]; simp only [List.length_map]; simp; omega
    · rw [filter_all]; simp
    · simp; omega
    have g14 := gv.ext X14.F.ext
    have b14 := bk.in_ X14.F.ext (fun b hb => .inl hb)
    have c14 := ck.ext X14.F.ext
    obtain ⟨m1, m2, m3, ob⟩ := c14.ob
    have l9 : ∀ line ∈ st'.defn 9, line.length < 64 := fun line hl => by
      have := defn_len (st := st') (t := 9) line hl
      rw [af.args] at this
      have h3 : is.length * is.length ≤ 3 * 3 := Nat.mul_le_mul (ha ▸ hm3) (ha ▸ hm3)
      omega
    have sh9 : st'.Sh 9 := ⟨af.it, by rw [af.args]; omega, fun x hx => (pt.1.thing x (hp x (af.args ▸ hx))).1, fun _ _ q => absurd af.op q, fun q => by rw [af.op] at q; exact absurd q (by decide), fun _ _ q => absurd af.op q⟩
    refine Xs.iff (b := false) (Et.cmp (Ev.cast (Ev.lcG (ι := pr3) (l := ps) (p := fun _ => false) (g := fun b => .int b.1) (xs := [S "e", S "a", S "b"]) (pt := fun b => [.int b.1, .int b.2.1, .int b.2.2]) inj3 X14.F (Src.list r.hd X14.F.var) (fun C I H' b hb hC => t3 C H' _ I b _ _ _ _ _ hC rfl rfl (k3 _ rfl rfl rfl) rfl) (fun C H' b h₂ hb x mo F' => ?_) (fun C H' b h₂ hb hp x mo F' => nomatch hp) (Nat.le_trans psl (by decide))) (d' := .list []) (by simp)) (Ev.list X14.F.dm .nil) (Cm.neNil r.uni)) (fun z => nomatch z) (fun _ h15 x15 => ?_)
    · have g15 := g14.ext x
      have b15 := b14.in_ x (fun b hb => mo b hb)
      have : (st'.fault [-9, -b.1] (.int 9) != S "") = false := by rw [flt b hb]; decide
      rw [← this]
      exact oneTest (Et.cmp (Ev.meth g15 r F'.var (ob.ext x) (.cons (Ev.list F'.dm (.cons (Ev.neg F'.var) (.cons (Ev.neg F'.var) .nil rfl) rfl)) (.cons F'.var .nil rfl) rfl) ((fault_fn (some := [-9, -b.1]) (d := .int 9) g15 F'.dm b15 (c14.ext x) pt.1.wf (.inl ⟨_, rfl⟩) (by simp) (fun t e _ _ => by cases e; exact ⟨sh9, l9⟩)).le (by decide)) rfl (by kernel_rfl)) Ev.str Cm.neS)
    · have F15 := X14.F.up x15
      have g15 := gv.ext F15.ext
      refine Xs.retD (d := .bool true) (Ev.cast (Ev.call g15 r (Ev.fn g15 (by kernel_rfl)) (by kernel_rfl) (.cons F15.var (.cons F15.var (.cons F15.var (.cons F15.var (.cons F15.var .nil rfl) rfl) rfl) rfl) rfl) (right_fn (ha := hasAll st' is) (atoms := srt (ddp ([9] ++ ps.map (·.1)))) g15 F15.dm (bk.in_ F15.ext fun b hb => .inl hb) (ck.ext F15.ext) pt.1.wf ?_ (fun _ _ => ⟨sh9, l9⟩) (fun kv hkv => ?_) (by rw [List.length_map]; decide))) (by rw [bl])) fun v h' x rv => kr _ _ ⟨rv, fin (F15.ext.trans x)⟩
      · rw [srt_len]; have := ddp_len (l := [9] ++ ps.map (·.1)); simp at this; simp; omega
      · obtain ⟨way, hw, rfl⟩ := List.mem_map.mp hkv
        refine ⟨?_, (af.rows way hw).1 9 (.head _), fun cl hcl x hx => tot _ (let_lits pos cl hcl x hx) way hw⟩
        unfold rowA
        have := tset_len (kv := rowP ps way) (k := 9) (a := .bool ((lateOf is).all fun p => !(home way p.1 == home way p.2)))
        have := rowP_len (ps := ps) (way := way)
        omega
end
section
variable {VB HB W0 : List Addr} {hst : Heap} {fd : Addr} {Ls : List Int} {n : Nat}
theorem Ev.strInt {e : Expr} {np pos : Pos} {k : Int} (g : Gd w mg mb h) (m : Ev w A H env h e (.int k)) (h0 : 0 ≤ k) (h9 : k < 10)
    (q : nsIn (KF w.params) mainGlobals (S "str") = some none := by kernel_rfl) (hb : bootBuiltins (S "str") = some (.type "str") := by kernel_rfl) (hst : starEach [e] env = (false, eval e env) :: starEach [] env := by rfl)
    (hg : env.globals = mainGlobals := by rfl) (hbb : env.builtins = builtinsNs := by rfl) (hk : env.scope.kind = .function := by rfl) (hl : env.kindOf (S "str") = some .globalImplicit := by rfl)
    (hs : eval (.Call (.Name (S "str") np) [e] [] pos) env = (do let __do_lift ← eval (.Name (S "str") np) env; callWith pos __do_lift [] (backTo pos (starEach [e] env)) (backToKw pos (keywordEach [] env))) := by rfl) :
    Ev w A H env h (.Call (.Name (S "str") np) [e] [] pos) (.str (Str.ofString (toString k))) := fun s Q E ee kq => by
  refine Call_ ((nmT g q hb (by decide) hg hbb hk hl (by decide)) np s _ E ee fun u h1 tk1 x1 r => ?_) hs
  subst r
  have as : Es w A H env h [e] [.int k] := .cons m .nil hst
  refine PyProof.Rows.callWith_type as.plain ?_
  have go := as.go (pos := pos)
  rw [hst] at go ⊢
  refine evalArgs_plain (go _ _ E (ee.trans x1) fun vs h2 tk2 x2 r2 => ?_)
  obtain ⟨v, rfl, t, rfl⟩ := one r2
  exact str_of_int_fit (N := 10) (by rw [if_neg (by omega)]; exact h9) (by decide) fun _ => kq _ h2 _ (x1.trans x2) ⟨_, rfl⟩
theorem Bin.catS {x y : Str} (hx : (x.length == 0) = false) (hy : (y.length == 0) = false) (hz : (x ++ y).length ≤ sizeLine) : Bin w A H h .Add (.str x) (.str y) (.str (x ++ y)) := fun u v h₁ _ ⟨t, e1⟩ ⟨t', e2⟩ s Q E e k => by
  subst e1 e2
  refine P.add_str ?_
  rw [hx, hy]
  exact ⟨hz, k _ s.heap _ (Ext.refl _) ⟨_, rfl⟩⟩
theorem names_ok : ∀ k : Nat, k < 3 → ((Str.ofString (toString (k : Int))).length == 0) = false ∧ (S "p" ++ Str.ofString (toString (k : Int))).length ≤ 10 ∧ (S "c" ++ Str.ofString (toString (k : Int))).length ≤ 10 := by decide +kernel
theorem Mx.newOLI {es : List Expr} {ds : List D} {pos : Pos} (as : Es w A W env h es ds) (hz : ds.length ≤ 1000) : Mx w A h (eval (.List es pos) env) (fun v h' => ∃ l, v = .ref l ∧ Ext h h' ∧ h.get? l = none ∧ h'.get? l ≠ none ∧ OLI (l :: W) h' l ds) := fun s Q E e k => by
  subst e
  exact List_ (as.go s _ E (Ext.refl _) fun vs h1 tk x1 r => wpAny_newObj_type (k _ _ _ ⟨h1.objs.size, rfl, x1.trans (Ext.push _ _), x1.gone (get_new _), by rw [Heap.get?_push_size _ rfl]; exact (fun z => nomatch z), vs.toArray, ⟨_, Heap.get?_push_size _ rfl, rfl, _, rfl⟩, by
      rw [List.toList_toArray]; exact RdAll.more r (Ext.push h1 _) fun b hb => (List.mem_cons.mp hb).elim (fun z => .inr (z ▸ get_new _)) .inl⟩) (by show vs.toArray.size ≤ sizeLine; rw [List.size_toArray, r.length]; exact Nat.le_trans hz (by decide)))
end
section
variable {VB HB W0 : List Addr} {hst : Heap} {fd : Addr} {Ls : List Int} {n : Nat}
theorem PL.live {l : Addr} {ds : List D} (p : PL V H h l ds) : h.get? l ≠ none := by obtain ⟨_, vs, ⟨k, hp⟩, _⟩ := p; rw [hp]; exact fun z => nomatch z
theorem Bk.live (b : Bk w H a st h) : ∀ c ∈ a.V, h.get? c ≠ none := fun c hc => by
  obtain ⟨_, _, sn⟩ := b.sn
  obtain ⟨_, _, sw⟩ := b.sw
  obtain ⟨_, _, fn⟩ := b.fn
  obtain ⟨_, _, fa⟩ := b.fa
  obtain ⟨_, _, fr⟩ := b.fr
  obtain ⟨_, xs, ⟨o, es, ep, e1, _⟩, _⟩ := b.num
  simp only [BA.V, List.mem_cons, List.not_mem_nil, or_false] at hc
  rcases hc with rfl | rfl | rfl | rfl | rfl | rfl | rfl | rfl | rfl | rfl
  · exact b.ops.live
  · exact b.args.live
  · exact b.sorts.live
  · exact b.datas.live
  · rw [e1]; exact fun z => nomatch z
  · exact sn.live
  · exact sw.live
  · exact fn.live
  · exact fa.live
  · exact fr.live
noncomputable def stC (i : Nat) : BS := ⟨ts8.take (2 + i), 4, i⟩
theorem stC_step (i : Nat) (hi : i < 6) : BS.made { stC i with nf := (stC i).nf + 1 } (S "app", [], if i < 3 then 0 else 3, (stC i).nf) = stC (i + 1) ∧ (stC i).numM (S "app", [], if i < 3 then 0 else 3, (stC i).nf) = 3 + i ∧ (stC i).ts.length < 1000 ∧ (stC i).nf < 1000 := by
  refine lt_s (P := fun i => BS.made { stC i with nf := (stC i).nf + 1 } (S "app", [], if i < 3 then 0 else 3, (stC i).nf) = stC (i + 1) ∧ (stC i).numM (S "app", [], if i < 3 then 0 else 3, (stC i).nf) = 3 + i ∧ (stC i).ts.length < 1000 ∧ (stC i).nf < 1000) (lt_s (lt_s (lt_s (lt_s (lt_s (fun k h => absurd h (Nat.not_lt_zero k)) ?_) ?_) ?_) ?_) ?_) ?_ i hi
  all_goals exact ⟨by kernel_rfl, by kernel_rfl, by decide, by decide⟩
theorem stC_end : stC 6 = st8 := by kernel_rfl
theorem numFrom_at {k : Key} : ∀ {ts : List Key} {n : Nat}, numFrom ts k n ≠ 0 → n ≤ numFrom ts k n ∧ ts[numFrom ts k n - n]? = some k
  | [], n, h => absurd rfl h
  | x :: r, n, h => by
    have e : numFrom (x :: r) k n = if x = k then n else numFrom r k (n + 1) := rfl
    by_cases z : x = k
    · rw [e, if_pos z]; simp [z]
    · rw [e, if_neg z] at h ⊢
      obtain ⟨a, b⟩ := numFrom_at h
      refine ⟨by omega, ?_⟩
      rw [show numFrom r k (n + 1) - n = (numFrom r k (n + 1) - (n + 1)) + 1 by omega, List.getElem?_cons_succ]; exact b
theorem not4 (p : PT st) : (st.made (notK 4)).Wf ∧ (∀ x ∈ [(3 : Int), 4, 5], (st.made (notK 4)).is x ∧ (st.made (notK 4)).op x = S "app") ∧ (st.made (notK 4)).sort 6 = 3 ∧ (st.made (notK 4)).op (st.numM (notK 4)) = S "not" ∧ ((st.made (notK 4)).boolB (.int (st.ts.length + 1)) = true → (st.made (notK 4)).op (st.ts.length + 1) = S "not") := by
  have i4 := p.app 4 (by decide)
  refine ⟨?_, fun x hx => ?_, ?_, ?_, fun hb => ?_⟩
  · by_cases z : notK 4 ∈ st.ts
    · have : numOf st.ts (notK 4) ≠ 0 := by unfold numOf; exact_mod_cast numFrom_mem (Nat.succ_pos _) z
      unfold BS.made; rw [if_neg this]; exact p.wf
    · refine ⟨fun t i q => ?_⟩
      by_cases l : t ≤ st.ts.length
      · have it : st.is t := ⟨i.1, l⟩
        obtain ⟨_, e1, e2, _⟩ := BS.made_get (k := notK 4) it
        rw [e1] at q
        obtain ⟨x, a, b, c⟩ := p.wf.nots t it q
        exact ⟨x, by rw [e2]; exact a, (BS.made_get b).1, c⟩
      · have : t = st.ts.length + 1 := by
          have := i.2
          rw [(BS.made_new z).1] at this
          simp at this; omega
        rw [this]
        refine ⟨4, (BS.new_at z).2.2.1, (BS.made_get i4.1).1, ?_⟩
        have := i4.1.2; omega
  · obtain ⟨a, _, c⟩ := p.app x hx
    obtain ⟨a', c', _, _⟩ := BS.made_get (k := notK 4) a
    exact ⟨a', c'.trans c⟩
  · obtain ⟨a, b⟩ := p.thing 6 (by decide)
    obtain ⟨_, _, _, b'⟩ := BS.made_get (k := notK 4) a
    exact b'.trans b
  · by_cases z : notK 4 ∈ st.ts
    · have q : numFrom st.ts (notK 4) 1 ≠ 0 := numFrom_mem (Nat.succ_pos _) z
      have : numOf st.ts (notK 4) ≠ 0 := by unfold numOf; exact_mod_cast q
      obtain ⟨a, b⟩ := numFrom_at q
      unfold BS.made BS.numM; rw [if_neg this, if_neg this]
      unfold BS.op numOf
      rw [show ((numFrom st.ts (notK 4) 1 : Int) - 1).toNat = numFrom st.ts (notK 4) 1 - 1 by omega, b]; rfl
    · rw [(BS.made_new z).2]; exact (BS.new_at z).2.1
  · by_cases z : notK 4 ∈ st.ts
    · have : numOf st.ts (notK 4) ≠ 0 := by unfold numOf; exact_mod_cast numFrom_mem (Nat.succ_pos _) z
      have e : st.made (notK 4) = st := by unfold BS.made; rw [if_neg this]
      rw [e] at hb
      simp only [BS.boolB, Bool.and_eq_true, decide_eq_true_eq] at hb
      omega
    · exact (BS.new_at z).2.1
theorem odd_note (p : PT st) : ∀ d ∈ [D.int 0, .int (st.ts.length + 1), .int 3, .int (st.numM (notK 4)), .none, .bool true, .int 6], (st.made (notK 4)).fault [3] d = S "note" ∧ ((∃ i, d = .int i) ∨ (∃ b, d = .bool b) ∨ d = .none) ∧ ∀ t, d = .int t → (st.made (notK 4)).boolB d = true → (st.made (notK 4)).op t ∉ FORMS := fun d hd => by
  obtain ⟨_, q2, q3, q4, q5⟩ := not4 p
  have nf : S "not" ∉ FORMS ∧ S "app" ∉ FORMS := by decide
  have key : ∀ t : Int, ((st.made (notK 4)).boolB (.int t) = true → (st.made (notK 4)).op t ∉ FORMS) → (st.made (notK 4)).fault [3] (.int t) = S "note" := fun t h => by
    show (if _ then _ else _) = _
    rw [if_neg fun z => h z.1 z.2]
  have all : ∀ t : Int, ((st.made (notK 4)).boolB (.int t) = true → (st.made (notK 4)).op t ∉ FORMS) → (st.made (notK 4)).fault [3] (.int t) = S "note" ∧ ((∃ i, D.int t = .int i) ∨ (∃ b, D.int t = .bool b) ∨ D.int t = .none) ∧ ∀ t', D.int t = .int t' → (st.made (notK 4)).boolB (.int t) = true → (st.made (notK 4)).op t' ∉ FORMS := fun t h => ⟨key t h, .inl ⟨t, rfl⟩, fun t' e hb => by cases e; exact h hb⟩
  simp only [List.mem_cons, List.not_mem_nil, or_false] at hd
  rcases hd with rfl | rfl | rfl | rfl | rfl | rfl | rfl
  · exact all 0 fun h => by simp [BS.boolB] at h
  · exact all _ fun h => by rw [q5 h]; exact nf.1
  · exact all 3 fun _ => by rw [(q2 3 (by decide)).2]; exact nf.2
  · exact all _ fun _ => by rw [q4]; exact nf.1
  · exact ⟨rfl, .inr (.inr rfl), fun t e => nomatch e⟩
  · exact ⟨rfl, .inr (.inl ⟨_, rfl⟩), fun t e => nomatch e⟩
  · exact all 6 fun h => by simp [BS.boolB, q3] at h
end
section
variable {VB HB W0 : List Addr} {hst : Heap} {fd : Addr} {Ls : List Int} {n : Nat}
theorem lk608 : (KF w.params).lookup 608 = some o608 := by kernel_rfl
noncomputable abbrev eL (L0 : Addr) : Env := envOfC (S "law") (dScope (top 26)) L0 608 (.ref 607)
theorem Mx.notIf {t x y : Expr} {p pos : Pos} {b : Bool} {whole : Sem Value} {R : Heap → Prop} (ht : Et w A env h t b) (m : ∀ h1, Ext h h1 → Mx w A h1 (eval (if b = true then x else y) env) (fun v h' => v = .bool true ∧ R h'))
    (hx : PySem.isTrue x env (eval x env) = (do let v ← eval x env; standAt (Expr.pos x); holding [v] (truthy v)) := by rfl) (hy : PySem.isTrue y env (eval y env) = (do let v ← eval y env; standAt (Expr.pos y); holding [v] (truthy v)) := by rfl) : Mx w A h (PySem.isTrue (.UnaryOp .Not (.IfExp t x y p) pos) env whole) (fun b h' => b = false ∧ R h') := fun s Q E ee k => by
  subst ee
  refine isTrue_not (isTrue_IfExp (ht s _ E (Ext.refl _) fun v h1 tk1 x1 e => ?_))
  subst e
  cases v with
  | true => rw [if_pos rfl]; exact isTrue_plain (m h1 x1 { s with heap := h1, toks := tk1 } _ E rfl fun v h2 tk2 ⟨e1, r⟩ => by subst e1; exact wpAny_truthy_bool (k false h2 tk2 ⟨rfl, r⟩)) hx
  | false => rw [if_neg (by decide)]; exact isTrue_plain (m h1 x1 { s with heap := h1, toks := tk1 } _ E rfl fun v h2 tk2 ⟨e1, r⟩ => by subst e1; exact wpAny_truthy_bool (k false h2 tk2 ⟨rfl, r⟩)) hy
theorem Mx.eqM {l r : Expr} {pos : Pos} {b : Int} {R1 : Int → Heap → Prop} (x : Mx w A h (eval l env) (fun v h1 => ∃ i, R1 i h1 ∧ ∃ t, v = .int i t)) (y : ∀ i h1, R1 i h1 → Ev w A H env h1 r (.int b)) (hb : behindInMarks .Eq r = false := by rfl) : Mx w A h (eval (.Compare l [.Eq] [r] pos) env) (fun v h' => ∃ i h1, R1 i h1 ∧ Ext h1 h' ∧ v = .bool (i == b)) := fun s Q E e k => by
  subst e
  exact wpAny_Compare1 (x s _ E rfl fun u h1 tk1 ⟨i, r1, t, e1⟩ => y i h1 r1 _ _ E (Ext.refl _) fun v h2 tk2 x2 r2 => Cm.eqI (H := H) u v h2 (Ext.refl _) (a := i) (by rw [e1]; exact ⟨t, rfl⟩) r2 _ _ E (Ext.refl _) fun q h3 tk3 x3 r3 => k q h3 tk3 ⟨i, h1, r1, x2.trans x3, r3⟩) hb
theorem Xs.pairN {x1 x2 : Str} {n n' : Nat} {tp vp pos p1 p2 : Pos} {e1 e2 : Expr} {R1 : Value → Heap → Prop} {T : List Addr → List Addr → List (Addr × Own) → D → D → Heap → Prop} (hh : A.handled = none) (m1 : Mx w A h (eval e1 env) R1)
    (m2 : ∀ v h1, R1 v h1 → Mx w A h1 (eval e2 env) (fun v2 h2 => Ex5 fun V W os d1 d2 => Fx h2 V h0 W env vars os h2 ∧ Rd W h2 d1 v ∧ Rd W h2 d2 v2 ∧ T V W os d1 d2 h2))
    (k : ∀ V W os d1 d2 h2 h3, T V W os d1 d2 h2 → Fx h2 V h0 W env ((x2, d2) :: (x1, d1) :: vars) os h3 → Xs w A env PN PR h3 rest) (k1 : locOk env x1 = true := by rfl) (k2 : locOk env x2 = true := by rfl)
    (hw : swappedStores [.Tuple [.Name x1 p1, .Name x2 p2] n tp] (.Tuple [e1, e2] n' vp) env = pure none := by rfl)
    (hea : assignEach [.Name x1 p1, .Name x2 p2] env = [(false, assign (.Name x1 p1) env), (false, assign (.Name x2 p2) env)] := by rfl)
    (hst : backTo vp (starEach [e1, e2] env) = [(false, eval e1 env), (false, eval e2 env)] := by rfl)
    (hs : swapsWithSole [.Tuple [.Name x1 p1, .Name x2 p2] n tp] (.Tuple [e1, e2] n' vp) pos.line env = pure false := by rfl) :
    Xs w A env PN PR h (.Assign [.Tuple [.Name x1 p1, .Name x2 p2] n tp] (.Tuple [e1, e2] n' vp) pos :: rest) := fun s Q E he kn kr => by
  subst he
  refine wpAny_execs_cons (Assign_Tuple (Tuple_ ?_) hs hw)
  rw [hst]
  refine spliced_cons (m1 s _ E rfl fun v h1 tk1 r1 => spliced_cons (m2 v h1 r1 _ _ E rfl fun v2 h2 tk2 ⟨V, W, os, d1, d2, X, rd1, rd2, t⟩ => spliced_nil ?_))
  refine wpAny_newObj_type (s := { s with heap := h2, toks := tk2 }) ?_ (show 2 ≤ sizeLine by decide)
  refine assign_Tuple_tuple (items := #[v, v2]) hh ⟨_, Heap.get?_push_size _ rfl, rfl, _, rfl⟩ (by rw [hea]; rfl) (by rw [hea]; rfl) fun h4 x4 => ?_
  have x24 : Ext h2 h4 := (Ext.push _ _).trans (ext_of_but x4)
  rw [hea]
  refine Fx.assigns [(x1, p1), (x2, p2)] [d1, d2] _ vars _ _ E rfl ⟨_, _, rfl, rd1.ext x24, _, _, rfl, rd2.ext x24, rfl⟩ (fun x hx => ?_) (X.up x24) fun h5 tk5 X5 => ?_
  · rcases List.mem_cons.mp hx with rfl | hx
    · exact k1
    · rw [List.mem_singleton.mp hx]; exact k2
  · exact k V W os d1 d2 h2 h5 t X5 _ Q E rfl kn kr
theorem const_step {nm : Str} (g : Gd w mg mb hb) {i : Nat} (hi : i < 6) : Mk w hb 3 H a (stC i) (stC (i + 1)) 160 [.obj a.b, .str nm, .int (if i < 3 then 0 else 3)] (.int (3 + i)) := by
  obtain ⟨s1, s2, s3, s4⟩ := stC_step i hi
  have := const_fn (nm := nm) (s := if i < 3 then 0 else 3) (H := H) (a := a) (st := stC i) g s4 s3
  rw [s1, s2] at this; exact this
theorem take_c : ∀ i : Nat, i < 3 → (([3, 4, 5] : List Int).map D.int).take i ++ [D.int (3 + i)] = (([3, 4, 5] : List Int).map D.int).take (i + 1) := fun i => lt3 (P := fun i => (([3, 4, 5] : List Int).map D.int).take i ++ [D.int (3 + i)] = (([3, 4, 5] : List Int).map D.int).take (i + 1)) rfl rfl rfl
theorem take_t : ∀ i : Nat, i < 3 → (([6, 7, 8] : List Int).map D.int).take i ++ [D.int (3 + (3 + i : Nat))] = (([6, 7, 8] : List Int).map D.int).take (i + 1) := fun i => lt3 (P := fun i => (([6, 7, 8] : List Int).map D.int).take i ++ [D.int (3 + (3 + i : Nat))] = (([6, 7, 8] : List Int).map D.int).take (i + 1)) rfl rfl rfl
theorem Mx.listA {es : List Expr} {pos : Pos} {R : List Value → Heap → Prop} (as : Am w A env h es R) (hz : ∀ vs h', R vs h' → vs.length ≤ 1000) : Mx w A h (eval (.List es pos) env) (fun v h' => ∃ l vs h2, R vs h2 ∧ v = .ref l ∧ h2.get? l = none ∧ Ext h2 h' ∧ h'.IsList l vs.toArray) := fun s Q E e k => by
  subst e
  exact List_ (as.2 pos s _ E rfl fun vs h1 tk r => wpAny_newObj_type (k _ _ _ ⟨h1.objs.size, vs, h1, r, rfl, get_new _, Ext.push _ _, ⟨_, Heap.get?_push_size _ rfl, rfl, _, rfl⟩⟩) (by show vs.toArray.size ≤ sizeLine; rw [List.size_toArray]; exact Nat.le_trans (hz vs h1 r) (by decide)))
noncomputable def oddD (st : BS) : List D := [.int 0, .int (st.ts.length + 1), .int 3, .int (st.numM (notK 4)), .none, .bool true, .int 6]
theorem law_fn {vs : List Value} {L : List Int} (g : Gd w mg mb h) (hm : Rm A 11) (hz : L.length ≤ 63) (rd : RdAll [] h [.list (L.map .int)] vs) : Mx w A h (PySem.call (.ref 608) vs) (fun v h' => v = .bool true ∧ Ext h h') := by
  refine Mx.enter (ps := [S "script"]) (H := []) (h0 := h) (k := 10) g (Ext.refl _) hm (fun b hb => absurd hb List.not_mem_nil) rd lk608 (by kernel_rfl) (args1 fun _ => rfl) rfl (fun n => rfl) (by decide) rfl rfl rfl (fun L0 A' h1 r F x1 fr => ?_)
  conv => arg 7; whnf
  refine Xs.hide fun PN PR kn kr => ?_
  generalize hW : frA (eL L0) ++ [] = W at F
  have fW : ∀ b ∈ frA (eL L0), b ∈ W := fun b hb => hW ▸ List.mem_append_left _ hb
  have Wf : ∀ b ∈ W, b ∈ frA (eL L0) := fun b hb => by rw [← hW, List.append_nil] at hb; exact hb
  have g1 := g.ext F.ext
  have lz : (L.take 40).length ≤ 1000 := by rw [List.length_take]; omega
  refine Xs.pairN (h0 := h) (vars := [(S "script", .list (L.map .int))]) (x1 := S "feed") (x2 := S "bank_now") (R1 := fun v h2 => ∃ fd, v = .ref fd ∧ Ext h1 h2 ∧ h1.get? fd = none ∧ h2.get? fd ≠ none ∧ OLI (fd :: W) h2 fd [.list ((L.take 40).map .int), .int 0])
    (T := fun V W' os d1 d2 h2 => ∃ (fd : Addr) (a : BA), d1 = .obj fd ∧ d2 = .obj a.b ∧ V = frA (eL L0) ∧ W' = (fd :: a.V) ++ W ∧ os = [] ∧ (∀ b ∈ fd :: a.V, h1.get? b = none) ∧ Ext h1 h2 ∧ LS w a fd (L.take 40) ⟨[trueK, falseK], 3, 0⟩ 0 W h2)
    r.hd ?_ (fun v h2 p => ?_) (fun V W' os d1 d2 h2 h3 p X3 => ?_)
  · refine (Mx.newOLI (.cons (Ev.listOf g1 F.dm (Ev.cast (Ev.sliceTo (k := 40) F.dm F.var Ev.int (by rw [List.length_map]; omega)) (d' := .list ((L.take 40).map .int)) (by rw [List.map_take])) (by rw [List.length_map]; exact lz)) (.cons Ev.int .nil rfl) rfl) (by simp)).imp fun v h' p => ?_
    obtain ⟨l, e1, x, n1, n2, o⟩ := p
    exact ⟨l, e1, x, n1, n2, o⟩
  · obtain ⟨fd, rfl, x2, n1, n2, o⟩ := p
    have g2 := g1.ext x2
    have dm2 : Dm (fd :: W) h2 := fun b hb => (List.mem_cons.mp hb).elim (fun z => z ▸ n2) (F.dm.ext x2 b)
    refine (Mx.call (a := 408) (H := W) (R := fun v h' => ∃ a : BA, v = .ref a.b ∧ Ext h2 h' ∧ Bk w (fd :: W) a ⟨[trueK, falseK], 3, 0⟩ h' ∧ ∀ b ∈ a.V, h2.get? b = none) g2 (Ev.name (d := .obj 408) (Nm.global (v := .ref 408) g2 (by kernel_rfl)) rfl) (by kernel_rfl) .nil (fun vs h3 x3 rd => by
      cases rd
      refine (bank_new (k := 6) (H := fd :: W) (g2.ext x3) r (dm2.ext x3)).imp fun v h' p => ?_
      obtain ⟨a, e, x4, b, f⟩ := p
      exact ⟨a, e, x3.trans x4, b, fun c hc => x3.gone (f c hc)⟩)).imp fun v h' p => ?_
    obtain ⟨a, rfl, x3, bk, fv⟩ := p
    have fdW : fd ∉ W := fun z => F.dm _ z n1
    have nf : ∀ b ∈ fd :: a.V, h1.get? b = none := fun b hb => (List.mem_cons.mp hb).elim (fun z => z ▸ n1) fun z => x2.gone (fv b z)
    have lv : ∀ b ∈ fd :: a.V, h'.get? b ≠ none := fun b hb => (List.mem_cons.mp hb).elim (fun z => z ▸ (x3.mv (B := [])).there n2) (bk.live b)
    have fda : fd ∉ a.V ++ W := fun z => (List.mem_append.mp z).elim (fun z => n2 (fv _ z)) fdW
    refine ⟨_, _, _, .obj fd, .obj a.b, ((Fx.of F).hide (N := fd :: a.V) (x2.trans x3) nf lv).base, rfl, rfl, fd, a, rfl, rfl, rfl, rfl, rfl, nf, x2.trans x3, bk, ⟨fda, o.to (To.more x3 fun b hb => ?_) fun o q => x3 _ _ q⟩, lz⟩
    rcases List.mem_cons.mp hb with z | z
    · exact .inl (z ▸ .head _)
    · exact (List.mem_append.mp z).elim (fun z => .inr (fv b z)) fun z => .inl (.tail _ z)
  obtain ⟨fd, a, rfl, rfl, rfl, rfl, rfl, nf, x12, j2⟩ := p
  have L3 : Lx (fd :: a.V) W (LS w a fd (L.take 40) ⟨[trueK, falseK], 3, 0⟩ 0) h1 (frA (eL L0)) h ((fd :: a.V) ++ W) (eL L0) [(S "bank_now", .obj a.b), (S "feed", .obj fd), (S "script", .list (L.map .int))] [] h3 :=
    ⟨X3.base, fun b hb => List.mem_append.mp hb, fun b hb => ⟨List.mem_append_left _ hb, fun z => F.dm b (fW b z) (nf b hb), F.ext.gone (nf b hb)⟩, fun b hb => List.mem_append_right _ hb, x12.mv.trans (X3.mv.sub fun b hb => List.mem_append_right _ hb), LS.sta j2 (To.mv X3.mv fW)⟩
  have L3 := L3.pick (vs := [(S "bank_now", .obj a.b), (S "feed", .obj fd)]) ⟨rfl, rfl, trivial⟩
  clear X3 j2
  generalize hWW : (fd :: a.V) ++ W = WW at L3
  refine Lx.asgD (d := .int 3) (J' := LS w a fd (L.take 40) (stC 0) 0) LS.sta L3 ((Lw.meth g L3.X.F L3.ws L3.j (r.le (by decide)) L3.X.F.var (.cons Ev.str .nil rfl) (declSort_fn g (by decide)) (by kernel_rfl)).imp fun v h' p => p) fun h4 L4 => ?_
  refine Lx.asgD (d := .list ([3, 4, 5].map .int)) (J' := LS w a fd (L.take 40) (stC 3) 0) LS.sta L4
    ((Mx.lcM (J := fun i acc HB h => acc = ([3, 4, 5].map D.int).take i ∧ LS w a fd (L.take 40) (stC i) 0 HB h) (ds := (List.range 3).map fun i => D.int (i : Nat)) (xs := [S "k"]) (pt := fun d => [d]) (fun i acc H h H' h' q t => ⟨q.1, LS.sta q.2 t⟩) L4 (fun q => ⟨rfl, q⟩)
      (Src.rangeN (n := 3) (g.ext L4.X.F.ext) r.hd (Ev.cast Ev.int rfl) (by decide) (by kernel_rfl) (by kernel_rfl)) (fun C I H' d hd hC => Binds.name rfl rfl hC) (fun C Dx I i d acc h5 hd ha j F' => ?_) (by simp)).imp fun v h' p => ?_) fun h5 L5 => ?_
  · obtain ⟨hi, rfl⟩ := range_get hd
    obtain ⟨m1, m2, m3⟩ := names_ok i hi
    have cf := const_step (H := fd :: (C :: Dx :: I :: W)) (a := a) (nm := S "p" ++ Str.ofString (toString (i : Int))) g (i := i) (by omega)
    rw [if_pos hi] at cf
    have W5 := ((L4.ws.cons I).cons Dx).cons C
    have g5 := g.ext F'.ext
    refine (Lw.meth (st' := stC (i + 1)) g F' W5 j.2 (r.le (by decide)) F'.var (.cons (Ev.bin Ev.str (Ev.strInt g5 F'.var (by omega) (by omega)) (Bin.catS (by decide) m1 (Nat.le_trans m2 (by decide)))) (.cons (Ev.BOOL g5) .nil rfl) rfl) cf (by kernel_rfl)).imp fun v h' p => ?_
    exact ⟨p.1, _, p.2.2, by rw [j.1]; exact take_c i hi, p.2.1⟩
  · obtain ⟨acc, ha, mv, ⟨q, j⟩, rv⟩ := p
    have : acc = [3, 4, 5].map D.int := q
    subst this
    exact ⟨mv, j, rv⟩
  refine Lx.asgC (J := fun i acc HB h => acc = ([6, 7, 8].map D.int).take i ∧ LS w a fd (L.take 40) (stC (3 + i)) 0 HB h) (ds := (List.range 3).map fun i => D.int (i : Nat)) (xs := [S "k"]) (pt := fun d => [d]) (fun i acc H h H' h' q t => ⟨q.1, LS.sta q.2 t⟩) L5 (fun q => ⟨rfl, q⟩)
      (Src.rangeN (n := 3) (g.ext L5.X.F.ext) r.hd (Ev.cast Ev.int rfl) (by decide) (by kernel_rfl) (by kernel_rfl)) (fun C I H' d hd hC => Binds.name rfl rfl hC) (fun C Dx I i d acc h6 hd ha j F' => ?_) (by simp) fun acc h6 ha L6 => ?_
  · obtain ⟨hi, rfl⟩ := range_get hd
    obtain ⟨m1, m2, m3⟩ := names_ok i hi
    have cf := const_step (H := fd :: (C :: Dx :: I :: W)) (a := a) (nm := S "c" ++ Str.ofString (toString (i : Int))) g (i := 3 + i) (by omega)
    rw [if_neg (by omega)] at cf
    have W5 := ((L5.ws.cons I).cons Dx).cons C
    have g5 := g.ext F'.ext
    refine (Lw.meth (st' := stC (3 + i + 1)) g F' W5 j.2 (r.le (by decide)) F'.var (.cons (Ev.bin Ev.str (Ev.strInt g5 F'.var (by omega) (by omega)) (Bin.catS (by decide) m1 (Nat.le_trans m3 (by decide)))) (.cons F'.var .nil rfl) rfl) cf (by kernel_rfl)).imp fun v h' p => ?_
    exact ⟨p.1, _, p.2.2, by rw [j.1]; exact take_t i hi, p.2.1⟩
  have L6 : Lx (fd :: a.V) W (LS w a fd (L.take 40) st8 0) h1 (frA (eL L0)) h WW (eL L0) [(S "things", .list (th.map .int)), (S "consts", .list ([3, 4, 5].map .int)), (S "bank_now", .obj a.b), (S "feed", .obj fd)] [] h6 := by
    have q : acc = th.map D.int := L6.j.1
    subst q
    refine (L6.pick (vs := [(S "things", .list (th.map .int)), (S "consts", .list ([3, 4, 5].map .int)), (S "bank_now", .obj a.b), (S "feed", .obj fd)]) ⟨rfl, rfl, rfl, rfl, trivial⟩).imp fun q => ?_
    have q2 : LS w a fd (L.take 40) (stC 6) 0 W h6 := q.2
    rw [stC_end] at q2; exact q2
  clear L5 L4 L3
  refine Lx.asgE (Q := fun _ : Bool => True) (d := fun b => .bool b) (J' := fun _ => LS w a fd (L.take 40) st8 1) (fun _ => LS.sta) L6 ((Mx.eqM (b := 3) (H := WW) (R1 := fun x h9 => Mv (fd :: a.V) h6 h9 ∧ LS w a fd (L.take 40) st8 1 W h9) ((Lw.dip g L6.X.F L6.ws L6.j r (by omega) (many := 4) (by decide) L6.X.F.var Ev.int).imp fun v h' p => ?_) (fun x h9 p => Ev.int)).imp fun v h' p => ?_) fun b h7 _ L7 => ?_
  · obtain ⟨x, p1, p2, m, j, t, rfl⟩ := p
    exact ⟨x, ⟨m, j⟩, t, rfl⟩
  · obtain ⟨x, h9, ⟨m, j⟩, x9, rfl⟩ := p
    exact ⟨x == 3, trivial, m.trans x9.mv, LS.sta j (To.ext x9), rfl⟩
  have g7 := g.ext L7.X.F.ext
  refine Xs.iteM (PN' := fun h9 => ∃ st' n', (PT st' ∧ st'.ts.length ≤ 13) ∧ Lx (fd :: a.V) W (LS w a fd (L.take 40) st' n') h1 (frA (eL L0)) h WW (eL L0) [(S "things", .list (th.map .int)), (S "consts", .list ([3, 4, 5].map .int)), (S "bank_now", .obj a.b), (S "feed", .obj fd)] [] h9) (Mx.notIf (b := b) (R := fun h' => ∃ st' n', (PT st' ∧ st'.ts.length ≤ 13) ∧ Mv (fd :: a.V) h7 h' ∧ LS w a fd (L.take 40) st' n' W h') (Et.plain L7.X.F.var rfl) (fun h8 x8 => ?_)) (fun b h9 p => ?_) (fun h9 p => ?_)
  · have L8 := L7.up LS.sta x8
    have g8 := g.ext L8.X.F.ext
    cases b with
    | true =>
      refine (Mx.call (a := 603) (H := WW) (R := fun v h' => v = .bool true ∧ ∃ st' n', (PT st' ∧ st'.ts.length ≤ 13) ∧ n' ≤ 1 + 9 ∧ Mv (fd :: a.V) h8 h' ∧ LS w a fd (L.take 40) st' n' W h') g8 (Ev.fn g8 (by kernel_rfl)) (by kernel_rfl) (.cons L8.X.F.var (.cons L8.X.F.var (.cons L8.X.F.var .nil rfl) rfl) rfl) (fun vs h9 x9 rd => (apart_fn (HB := W) g (L8.X.F.ext.trans x9) (r.le (by decide)) L8.ws (L8.X.F.dm.ext x9) (LS.sta L8.j (To.ext x9)) (by decide) rd).imp fun v h' p => ?_)).imp fun v h' p => ?_
      · obtain ⟨e, st', n', p1, p2, p3, p4⟩ := p
        exact ⟨e, st', n', p1, p2, x9.mv.trans p3, p4⟩
      · obtain ⟨e, st', n', p1, p2, p3, p4⟩ := p
        exact ⟨e, st', n', p1, x8.mv.trans p3, p4⟩
    | false =>
      refine (Mx.call (a := 593) (H := WW) (R := fun v h' => v = .bool true ∧ ∃ st' n', (∃ t op is, Drawn st' t op is) ∧ n' ≤ 1 + 5 ∧ Mv (fd :: a.V) h8 h' ∧ LS w a fd (L.take 40) st' n' W h') g8 (Ev.fn g8 (by kernel_rfl)) (by kernel_rfl) (.cons L8.X.F.var (.cons L8.X.F.var (.cons L8.X.F.var .nil rfl) rfl) rfl) (fun vs h9 x9 rd => (boolean_fn (HB := W) g (L8.X.F.ext.trans x9) (r.le (by decide)) L8.ws (L8.X.F.dm.ext x9) (LS.sta L8.j (To.ext x9)) (by decide) rd).imp fun v h' p => ?_)).imp fun v h' p => ?_
      · obtain ⟨e, st', n', p1, p2, p3, p4⟩ := p
        exact ⟨e, st', n', p1, p2, x9.mv.trans p3, p4⟩
      · obtain ⟨e, st', n', ⟨t, op, is, dr⟩, p2, p3, p4⟩ := p
        exact ⟨e, st', n', dr.pt, x8.mv.trans p3, p4⟩
  · obtain ⟨rfl, st', n', p1, p2, p3⟩ := p
    exact Xs.nil ⟨st', n', p1, (L7.eff p2 p3).pick ⟨rfl, rfl, rfl, rfl, trivial⟩⟩
  obtain ⟨st', n', ⟨pt, pl⟩, L9⟩ := p
  have VA : ∀ b ∈ fd :: a.V, h9.get? b ≠ none := fun b hb => L9.X.F.dm b (L9.vB b hb).1
  refine Xs.pairN (h0 := h) (vars := [(S "things", .list (th.map .int)), (S "consts", .list ([3, 4, 5].map .int)), (S "bank_now", .obj a.b), (S "feed", .obj fd)]) (x1 := S "checker_now") (x2 := S "odd") (R1 := fun v h10 => ∃ c, v = .ref c ∧ Ext h9 h10 ∧ ∀ h2, (∀ b o, h9.get? b = none → h10.get? b = some o → h2.get? b = some o) → Ck h2 c a.b)
    (T := fun V W' os d1 d2 h2 => ∃ c, d1 = .obj c ∧ d2 = .list (oddD st') ∧ V = frA (eL L0) ∧ W' = WW ∧ os = [] ∧ Mv (fd :: a.V) h9 h2 ∧ LS w a fd (L.take 40) (st'.made (notK 4)) n' W h2 ∧ ∀ h3, (∀ b o, h9.get? b = none → h2.get? b = some o → h3.get? b = some o) → Ck h3 c a.b)
    r.hd ((Mx.checker (k := 8) (g.ext L9.X.F.ext) L9.X.F.dm (r.le (by decide)) (.cons L9.X.F.var (.cons (Ev.list L9.X.F.dm (.cons Ev.int .nil rfl)) (.cons (Ev.list L9.X.F.dm .nil) (.cons (Ev.list L9.X.F.dm .nil) .nil rfl) rfl) rfl) rfl)).imp fun v h' p => ?_) (fun v h10 p => ?_) (fun V W' os d1 d2 h2 h3 p X3 => ?_)
  · obtain ⟨d, x, ⟨c, rfl, q⟩, rv⟩ := p
    exact ⟨c, rv, x, q⟩
  · obtain ⟨c, rfl, x10, hc⟩ := p
    have L10 := L9.up LS.sta x10
    have g10 := g.ext L10.X.F.ext
    refine (Mx.listA (R := fun vs h2 => RdAll WW h2 (oddD st') vs ∧ Mv (fd :: a.V) h10 h2 ∧ LS w a fd (L.take 40) (st'.made (notK 4)) n' W h2) ?_ (fun vs h' q => by rw [q.1.length]; exact (by decide : 7 ≤ 1000))).imp fun v h' p => ?_
    · refine Am.pure (W := WW) (d := .int 0) Ev.int (fun v1 h11 y1 r1 => ?_) (fun _ => rfl)
      have L11 := L10.up LS.sta y1
      have g11 := g.ext L11.X.F.ext
      refine Am.pure (W := WW) (d := .int (st'.ts.length + 1)) (Ev.bin (Ev.intAny (H := fd :: W) (Ev.meth g11 r (L11.X.F.var.less L11.ws.subP) L11.j.1.ob.ob .nil ((size_fn g11 (fun b hb => L11.X.F.dm b (L11.ws.subP b hb)) L11.j.1).le (by decide)) rfl (by kernel_rfl))) Ev.int Bin.add) (fun v2 h12 y2 r2 => ?_) (fun _ => rfl)
      have L12 := L11.up LS.sta y2
      refine Am.pure (W := WW) (d := .int 3) (Ev.itemL (k := 0) (ds := [3, 4, 5].map .int) L12.X.F.var Ev.int (by decide) rfl (by decide)) (fun v3 h13 y3 r3 => ?_) (fun _ => rfl)
      have L13 := L12.up LS.sta y3
      obtain ⟨i4, s4, o4⟩ := pt.app 4 (by decide)
      refine Am.first (W := WW) (ds := [.none, .bool true, .int 6]) (R1 := fun v h14 => Mv (fd :: a.V) h13 h14 ∧ Lx (fd :: a.V) W (LS w a fd (L.take 40) (st'.made (notK 4)) n') h1 (frA (eL L0)) h WW (eL L0) [(S "things", .list (th.map .int)), (S "consts", .list ([3, 4, 5].map .int)), (S "bank_now", .obj a.b), (S "feed", .obj fd)] [] h14 ∧ Rd WW h14 (.int (st'.numM (notK 4))) v)
        ((Lw.meth g L13.X.F L13.ws L13.j (r.le (by decide)) L13.X.F.var (.cons (Ev.itemL (k := 1) (ds := [3, 4, 5].map .int) L13.X.F.var Ev.int (by decide) rfl (by decide)) .nil rfl) (not_fn (t := 4) g (by omega) ⟨i4, s4⟩ (by rw [o4]; decide) (by decide) (by decide)) (by kernel_rfl)).imp fun v h' p => ⟨p.1, L13.eff p.1 p.2.1, p.2.2⟩)
        (fun v h14 q => .cons Ev.cnone (.cons Ev.cbool (.cons (Ev.itemL (k := 0) (ds := th.map .int) q.2.1.X.F.var Ev.int (by decide) rfl (by decide)) .nil rfl) rfl) rfl) (fun _ => rfl) (fun v4 h14 vs h15 q x15 rd => ?_)
      exact ⟨⟨v1, _, rfl, r1, v2, _, rfl, r2, v3, _, rfl, r3, v4, _, rfl, q.2.2, rd⟩, (y1.trans (y2.trans y3)).mv.trans (q.1.trans x15.mv), LS.sta q.2.1.j (To.ext x15)⟩
    · obtain ⟨l, vs, h2, ⟨rd, m, j⟩, rfl, ln, x2, il⟩ := p
      have L11 := (L10.eff m j).up LS.sta x2
      have lW : l ∉ WW := fun z => (L10.eff m j).X.F.dm _ z ln
      refine ⟨_, _, _, .obj c, .list (oddD st'), L11.X, rfl, ⟨l, vs, rfl, lW, il, rd.ext x2⟩, c, rfl, rfl, rfl, rfl, rfl, x10.mv.trans (m.trans x2.mv), L11.j, fun h3 q => hc h3 fun b o nb eb => q b o nb (x2 b o (m.off b o (fun z => VA b z nb) eb))⟩
  obtain ⟨c, rfl, rfl, rfl, rfl, rfl, m2, j2, hc⟩ := p
  have j3 : LS w a fd (L.take 40) (st'.made (notK 4)) n' W h3 := LS.sta j2 (To.mv X3.mv fW)
  obtain ⟨hv, xv, xb, off, Fv, bk, jv⟩ := pure_base X3.F L9.ws j3 fW
  have ck : Ck hv c a.b := hc hv fun b o nb eb => by
    have nf' : b ∉ frA (eL L0) := fun z => (L9.X.F.dm b (L9.X.F.inW b z)) nb
    rw [off b nf']; exact X3.mv.off b o nf' eb
  have gv := g.ext xb
  have fin : ∀ {h' : Heap}, Ext hv h' → Ext h h' := fun {h'} x b o eb => by
    have e1 := x1 b o eb
    have n1 : b ∉ fd :: a.V := fun z => by rw [nf b z] at e1; cases e1
    have n2 : b ∉ frA (eL L0) := fun z => by rw [fr b z] at eb; cases eb
    have e9 := L9.mv.off b o (fun z => (List.mem_append.mp z).elim n1 n2) e1
    exact x b o (by rw [off b n2]; exact X3.mv.off b o n2 (m2.off b o n1 e9))
  obtain ⟨m1, m2', m3, ob⟩ := ck.ob
  have wfn := (not4 pt).1
  refine Xs.retD (d := .bool true) (Ev.cast (Ev.cmp (Ev.lc (ds := oddD st') (p := fun _ => false) (f := fun d => d) (xs := [S "one"]) (pt := fun d => [d]) Fv (Src.list r.hd Fv.var) (fun C I H' d hd hC => Binds.name rfl rfl hC) (fun C H' d h₂ hd x mo F' => ?_) (fun C H' d h₂ hd hp x mo F' => nomatch hp) (show (oddD st').length ≤ 100000 from (by decide : 7 ≤ 100000))) (Ev.list Fv.dm .nil) (Cm.eqNil r.uni)) (by simp)) fun v h' x rv => kr _ _ ⟨rv, fin (xv.trans x)⟩
  obtain ⟨fl, hd3, sh⟩ := odd_note pt d hd
  have xx := xv.trans x
  have g2 := gv.ext xx
  have : ((st'.made (notK 4)).fault [3] d != S "note") = false := by rw [fl]; decide
  rw [← this]
  exact oneTest (Et.cmp (Ev.meth g2 r F'.var (ob.ext xx) (.cons (Ev.list F'.dm (.cons (Ev.itemL (k := 0) (ds := [3, 4, 5].map .int) F'.var Ev.int (by decide) rfl (by decide)) .nil rfl)) (.cons F'.var .nil rfl) rfl) ((fault_fn (some := [3]) (d := d) g2 F'.dm (bk.in_ xx fun b hb => (mo b hb).imp id fun z => xv.gone z) (ck.ext xx) wfn hd3 (by decide) (fun t e hb hf => absurd hf (sh t e hb))).le (by decide)) rfl (by kernel_rfl)) Ev.str Cm.neS)
end
theorem rd_ints {cl : Str → Option Addr} {h : Heap} {H : List Addr} {L : List Int} : ∀ {vs : List Value} {as : List Addr}, ReadsAllW [] cl h vs (L.map .int) as → RdAll H h (L.map .int) vs := by
  induction L with
  | nil => intro vs as r; exact (readsAllW_nil_inv r).1
  | cons i L ih =>
    intro vs as r
    obtain ⟨v, vs, a1, a2, rfl, rfl, r1, r2⟩ := readsAllW_cons_inv r
    obtain ⟨t, rfl, -⟩ := readsW_int_inv r1
    exact ⟨_, _, rfl, ⟨_, rfl⟩, ih r2⟩
theorem len_of {L : List Int} (hp : (WTm.and (.not (.lt (.lit (.int 63)) (.len (.arg 0)))) (.lit (.bool true))).holds [] { args := [.list (L.map WData.int)] } = true) : L.length ≤ 63 := by
  have := condW_of hp (by wtm_val)
  simp at this
  omega
theorem law_args {cl : Str → Option Addr} {h : Heap} {args : List WData} {vals : List Value} {as : List Addr} (hs : WShape.hasAll [] args [.list .int] = true) (hrd : ReadsAllW [] cl h vals args as)
    (hp : (WTm.and (.not (.lt (.lit (.int 63)) (.len (.arg 0)))) (.lit (.bool true))).holds [] { args := args } = true) : ∃ L : List Int, args = [.list (L.map .int)] ∧ ∃ l, vals = [.ref l] ∧ L.length ≤ 63 ∧ RdAll [] h [.list (L.map .int)] [.ref l] := by
  obtain ⟨d, rest, rfl, h1, h2⟩ := hasAllW_cons (es := []) hs
  have := hasAllW_nil h2
  subst this
  obtain ⟨xs, rfl, h3⟩ := hasW_list h1
  obtain ⟨L, rfl⟩ := items_int h3
  obtain ⟨v, vs, a1, a2, rfl, rfl, r1, r2⟩ := readsAllW_cons_inv hrd
  obtain ⟨rfl, _⟩ := readsAllW_nil_inv r2
  obtain ⟨l, o1, its, n, ai, rfl, q1, q2, q3, q4⟩ := readsW_list_open r1
  exact ⟨L, rfl, l, rfl, len_of hp, _, _, rfl, ⟨l, its.toList, rfl, List.not_mem_nil, ⟨o1, q1, q2, n, by simpa using q3⟩, rd_ints q4.1⟩, rfl⟩
theorem law_walk : WalkO qV lsV (XL qV []) HkV.says rwL.row.toRowW lawD [] fun f vs => PySem.call f vs := by
  intro w s₀ s₁ mg mb G Y a o pm cd doc dV kV ho hdd hcr hdf hmg hgens args vals as hpre hlay hrd hwell hlow
  have g : Gd w mg mb s₁.heap := ⟨kIn_of Y, topRead_of G.T⟩
  have ea : a = 608 := by
    have : mg (S "law") = some (.ref 608) := mg_of g.X g.T.g (by kernel_rfl)
    rw [show lawD.name = S "law" from rfl, this] at hmg
    injection hmg with e; injection e with e; exact e.symm
  subst ea
  obtain ⟨hs, hp⟩ := pre_splitW hpre
  obtain ⟨L, rfl, l, rfl, hz, rd⟩ := law_args hs hrd hp
  refine law_fn (A := callerA) g ⟨rfl, by decide, by decide⟩ hz rd s₁ _ _ rfl fun v h' tk ⟨e, x⟩ => ?_
  subst e
  refine ⟨.inl ⟨.bool true, .bool true, [], rfl, fun _ => rfl, .bool true, ?_, fun _ => ⟨List.nodup_nil, fun a ha => absurd ha List.not_mem_nil⟩⟩, OldK.of_keep x, rfl, AllBare.of_eq hgens⟩
  show (WShape.has [] (.bool true) .bool && (WTm.eq .res (.lit (.bool true))).holds [] { args := [WData.list (L.map WData.int)], res := some (.bool true), after := [WData.list (L.map WData.int)] }) = true
  kernel_rfl
theorem law_holds : rwL.Holds := hd law_walk
end
end Mine
theorem PySem.Challenge.cw_nz0151_01_holds : PySem.Challenge.rw_nz0151_01.Holds :=
  Mine.law_holds

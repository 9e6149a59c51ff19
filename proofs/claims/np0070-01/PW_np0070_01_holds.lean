import PyProof.Rows.All
import Wide.All
import OpenK.AllK
import Wide.FinOn
import Lean
import PySem.Challenge.RW_np0070_01
open PySem PySem.W PyProof.Rows
set_option Elab.async false
set_option maxRecDepth 100000
set_option linter.all false
namespace N70
section
set_option maxHeartbeats 8000000
-- the head: the program's top, run in pieces; the states were printed by a program (wip/head)
abbrev PW : Program := PySem.Challenge.pw_np0070_01
noncomputable def stm (i : Nat) : Stmt := PySem.Challenge.pw_np0070_01.main.body.getD i (Stmt.Pass default)
noncomputable def sub (i j : Nat) : Stmt := match stm i with
  | .ClassDef _ _ _ b _ _ _ _ _ _ _ => b.getD j (Stmt.Pass default)
  | s => s
noncomputable def dP : Stmt → Arguments
  | .FunctionDef _ a _ _ _ _ _ _ _ _ => a
  | _ => default
noncomputable def dB : Stmt → List Stmt
  | .FunctionDef _ _ b _ _ _ _ _ _ _ => b
  | _ => []
noncomputable def dS : Stmt → Scope
  | .FunctionDef _ _ _ _ _ _ s _ _ _ => s
  | _ => default
noncomputable def en (P : Params) (x : String) (t : Tok) (v : Value) : DictEntry := ⟨PyData.keyHash P (Str.ofString x), .str (Str.ofString x) t, v⟩
noncomputable def vs (x : String) (t : Tok) : Value := .str (Str.ofString x) t
noncomputable def mkT (l : List Obj) : BT := (l.foldl (fun (p : BT × Nat) o => (p.1.ins p.2 o, p.2 + 1)) (BT.nil, 0)).1
noncomputable def putT (t : BT) (l : List (Nat × Obj)) : BT := l.foldl (fun t p => t.ins p.1 p.2) t
noncomputable def tpos (a b c d : Nat) : Pos := { line := a, col := b, endLine := c, endCol := d }
noncomputable def envM : Env := { scope := PySem.Challenge.pw_np0070_01.main.scope, locals := mainNs, globals := mainNs, cells := [], code := .ref 13, frame := some 14 }
noncomputable def codM : Code := .body (behindTheImports PySem.Challenge.pw_np0070_01) envM
noncomputable abbrev frM : List Frame := [topFrame (tpos 0 0 0 0)]
noncomputable def stT (t : BT) (n tk : Nat) (os : OsState) : SharedT := ⟨t, n, {}, #[], {}, tk, os⟩

noncomputable def q0 (P : Params) : Obj := { cls := .type "code", data := Data.fields #[vs "<module>" 182, vs "<module>" 183, vs "/claim/cut.py" 184, .int 1 0, .int 0 0, .int 0 0, .int 0 0, .int 0 0, .ref 11, .bool false, .int 181 0, .ref 12, .none, .none, .none, .none, .int 185 0, .int 1 0, vs "/claim/cut.py" 186] }
noncomputable def q1 (P : Params) : Obj := { cls := .type "frame", slots := #[some (.ref 13), some (.ref 3), some (.ref 3), none, some (vs "__main__" 164), none, some (.ref 0)] }
noncomputable def hpA (P : Params) : Heap := ⟨⟨[boot_o_0 P, boot_o_1 P, boot_o_2 P, boot_o_3 P, boot_o_4 P, boot_o_5 P, boot_o_6 P, boot_o_7 P, boot_o_8 P, boot_o_9 P, boot_o_10 P, boot_o_7 P, boot_o_8 P, q0 P, q1 P]⟩, { }⟩
noncomputable def tr0 (P : Params) : BT := mkT [boot_o_0 P, boot_o_1 P, boot_o_2 P, boot_o_3 P, boot_o_4 P, boot_o_5 P, boot_o_6 P, boot_o_7 P, boot_o_8 P, boot_o_9 P, boot_o_10 P, boot_o_7 P, boot_o_8 P, q0 P, q1 P]
noncomputable def q2 (P : Params) : Obj := { cls := .none, data := Data.dict #[en P "type.__subclasses__.Exception.0" 239 (.int 52 0), en P "type.__subclasses__.Exception.n" 240 (.int 1 0)] 2 }
noncomputable def q3 (P : Params) : Obj := { cls := .type "dict", data := Data.dict #[en P "__name__" 165 (vs "emacs.editing" 243), en P "__doc__" 166 (.none), en P "__package__" 167 (.none), en P "__loader__" 168 (Value.builtin "__main__.__loader__#opaque"), en P "__spec__" 169 (.none), en P "__annotations__" 170 (.ref 6), en P "__builtins__" 171 (.ref 4), en P "__file__" 173 (vs "/claim/cut.py" 172), en P "__cached__" 174 (.none), en P "_wall" 193 (.ref 21), en P "downcase" 202 (.ref 28), en P "fold" 209 (.ref 35), en P "LispSignal" 242 (.ref 52), en P "need_writable" 251 (.ref 62), en P "reached" 262 (.ref 69)] 15 }
noncomputable def q4 (P : Params) : Obj := { cls := .none, data := Data.fields #[.int 1 0, .int 0 0, .ref 20, .int 5 0, .int 0 0, .ref 27, .int 9 0, .int 0 0, .ref 34, .int 12 0, .int 0 0, .ref 41, .int 18 0, .int 0 0, .ref 61, .int 21 0, .int 0 0, .ref 68] }
noncomputable def q5 (P : Params) : Obj := { cls := .type "tuple", data := Data.seq #[vs "k" 190] }
noncomputable def q6 (P : Params) : Obj := { cls := .none, data := Data.func { name := Str.ofString "_wall", qualname := Str.ofString "_wall", params := (dP (stm 0)), body := FuncBody.stmts (dB (stm 0)), scope := (dS (stm 0)), globals := 0, closure := [], defaults := .none, kwdefaults := .none } }
noncomputable def q7 (P : Params) : Obj := { cls := .type "code", data := Data.fields #[vs "_wall" 187, vs "_wall" 188, vs "/claim/cut.py" 189, .int 1 0, .int 1 0, .int 0 0, .int 0 0, .int 3 0, .ref 15, .bool true, .int 181 0, .ref 16, .none, .ref 17, .ref 18, .ref 19, .int 191 0, .int 1 0, vs "/claim/cut.py" 192] }
noncomputable def q8 (P : Params) : Obj := { cls := .type "function", data := Data.func { name := Str.ofString "_wall", qualname := Str.ofString "_wall", params := (dP (stm 0)), body := FuncBody.stmts (dB (stm 0)), scope := (dS (stm 0)), globals := 3, closure := [], defaults := .none, kwdefaults := .none, pyModule := vs "__main__" 164, code := .ref 20 } }
noncomputable def q9 (P : Params) : Obj := { cls := .type "tuple", data := Data.seq #[vs "code" 199] }
noncomputable def q10 (P : Params) : Obj := { cls := .none, data := Data.func { name := Str.ofString "downcase", qualname := Str.ofString "downcase", params := (dP (stm 2)), body := FuncBody.stmts (dB (stm 2)), scope := (dS (stm 2)), globals := 0, closure := [], defaults := .none, kwdefaults := .none } }
noncomputable def q11 (P : Params) : Obj := { cls := .type "code", data := Data.fields #[vs "downcase" 196, vs "downcase" 197, vs "/claim/cut.py" 198, .int 5 0, .int 1 0, .int 0 0, .int 0 0, .int 3 0, .ref 22, .bool true, .int 181 0, .ref 23, .none, .ref 24, .ref 25, .ref 26, .int 200 0, .int 5 0, vs "/claim/cut.py" 201] }
noncomputable def q12 (P : Params) : Obj := { cls := .type "function", data := Data.func { name := Str.ofString "downcase", qualname := Str.ofString "downcase", params := (dP (stm 2)), body := FuncBody.stmts (dB (stm 2)), scope := (dS (stm 2)), globals := 3, closure := [], defaults := .none, kwdefaults := .none, pyModule := vs "emacs.casefold" 194, code := .ref 27 } }
noncomputable def q13 (P : Params) : Obj := { cls := .type "tuple", data := Data.seq #[vs "code" 206] }
noncomputable def q14 (P : Params) : Obj := { cls := .none, data := Data.func { name := Str.ofString "fold", qualname := Str.ofString "fold", params := (dP (stm 3)), body := FuncBody.stmts (dB (stm 3)), scope := (dS (stm 3)), globals := 0, closure := [], defaults := .none, kwdefaults := .none } }
noncomputable def q15 (P : Params) : Obj := { cls := .type "code", data := Data.fields #[vs "fold" 203, vs "fold" 204, vs "/claim/cut.py" 205, .int 9 0, .int 1 0, .int 0 0, .int 0 0, .int 3 0, .ref 29, .bool true, .int 181 0, .ref 30, .none, .ref 31, .ref 32, .ref 33, .int 207 0, .int 9 0, vs "/claim/cut.py" 208] }
noncomputable def q16 (P : Params) : Obj := { cls := .type "function", data := Data.func { name := Str.ofString "fold", qualname := Str.ofString "fold", params := (dP (stm 3)), body := FuncBody.stmts (dB (stm 3)), scope := (dS (stm 3)), globals := 3, closure := [], defaults := .none, kwdefaults := .none, pyModule := vs "emacs.casefold" 194, code := .ref 34 } }
noncomputable def q17 (P : Params) : Obj := { cls := .type "tuple", data := Data.seq #[.type "Exception"] }
noncomputable def q18 (P : Params) : Obj := { cls := .type "builtin_function_or_method", data := Data.fields #[Value.builtin "type.__prepare__", .type "type"] }
noncomputable def q19 (P : Params) : Obj := { cls := .type "dict", data := Data.dict #[en P "__module__" 219 (vs "emacs.errors" 210), en P "__qualname__" 221 (vs "LispSignal" 220), en P "__firstlineno__" 223 (.int 12 222), en P "__init__" 232 (.ref 49), en P "__static_attributes__" 235 (.ref 50)] 5 }
noncomputable def q20 (P : Params) : Obj := { cls := .none, data := Data.fields #[.int 14 0, .int 4 0, .ref 48] }
noncomputable def q21 (P : Params) : Obj := { cls := .type "code", data := Data.fields #[vs "LispSignal" 214, vs "LispSignal" 215, vs "/claim/cut.py" 216, .int 12 0, .int 0 0, .int 0 0, .int 0 0, .int 0 0, .ref 39, .bool false, .int 181 0, .ref 40, .none, .none, .none, .none, .int 217 0, .int 12 0, vs "/claim/cut.py" 218] }
noncomputable def q22 (P : Params) : Obj := { cls := .type "frame", slots := #[some (.ref 41), some (.ref 3), some (.ref 38), none, some (vs "emacs.errors" 210), none, some (.ref 0)] }
noncomputable def q23 (P : Params) : Obj := { cls := .type "tuple", data := Data.seq #[vs "self" 227, vs "symbol" 228, vs "data" 229] }
noncomputable def q24 (P : Params) : Obj := { cls := .none, data := Data.func { name := Str.ofString "__init__", qualname := Str.ofString "LispSignal.__init__", params := (dP (sub 5 0)), body := FuncBody.stmts (dB (sub 5 0)), scope := (dS (sub 5 0)), globals := 0, closure := [], defaults := .none, kwdefaults := .none } }
noncomputable def q25 (P : Params) : Obj := { cls := .type "code", data := Data.fields #[vs "__init__" 224, vs "LispSignal.__init__" 225, vs "/claim/cut.py" 226, .int 14 0, .int 3 0, .int 0 0, .int 0 0, .int 3 0, .ref 43, .bool true, .int 181 0, .ref 44, .none, .ref 45, .ref 46, .ref 47, .int 230 0, .int 14 0, vs "/claim/cut.py" 231] }
noncomputable def q26 (P : Params) : Obj := { cls := .type "function", data := Data.func { name := Str.ofString "__init__", qualname := Str.ofString "LispSignal.__init__", params := (dP (sub 5 0)), body := FuncBody.stmts (dB (sub 5 0)), scope := (dS (sub 5 0)), globals := 3, closure := [], defaults := .none, kwdefaults := .none, pyModule := vs "emacs.errors" 210, code := .ref 48 } }
noncomputable def q27 (P : Params) : Obj := { cls := .type "tuple", data := Data.seq #[vs "data" 233, vs "symbol" 234] }
noncomputable def q28 (P : Params) : Obj := { cls := .type "dict", data := Data.dict #[en P "__module__" 219 (vs "emacs.errors" 210), en P "__firstlineno__" 223 (.int 12 222), en P "__init__" 232 (.ref 49), en P "__static_attributes__" 235 (.ref 50), en P "__weakref__" 237 (.ref 53), en P "__doc__" 238 (.none)] 3 }
noncomputable def q29 (P : Params) : Obj := { cls := .type "type", data := Data.cls { name := Str.ofString "LispSignal", bases := [.type "Exception"], mro := [.ref 52, .type "Exception", .type "BaseException", .type "object"], ns := 51, qualname := Str.ofString "LispSignal" }, slots := #[some (.ref 36), none, some (vs "LispSignal" 212), some (vs "LispSignal" 220), some (Value.builtin "Exception.__new__"), some (.bool true)] }
noncomputable def q30 (P : Params) : Obj := { cls := .type "getset_descriptor", data := Data.fields #[vs "__weakref__" 236, .ref 52, Value.builtin "ExceptionGroup.__weakref__", .none] }
noncomputable def q31 (P : Params) : Obj := { cls := .type "super", data := Data.fields #[.ref 52, .ref 52, .ref 52] }
noncomputable def q32 (P : Params) : Obj := { cls := .type "builtin_function_or_method", data := Data.fields #[Value.builtin "object.__init_subclass__", .ref 52] }
noncomputable def q33 (P : Params) : Obj := { cls := .type "tuple", data := Data.seq #[vs "buffer" 248] }
noncomputable def q34 (P : Params) : Obj := { cls := .none, data := Data.func { name := Str.ofString "need_writable", qualname := Str.ofString "need_writable", params := (dP (stm 7)), body := FuncBody.stmts (dB (stm 7)), scope := (dS (stm 7)), globals := 0, closure := [], defaults := .none, kwdefaults := .none } }
noncomputable def q35 (P : Params) : Obj := { cls := .type "code", data := Data.fields #[vs "need_writable" 245, vs "need_writable" 246, vs "/claim/cut.py" 247, .int 18 0, .int 1 0, .int 0 0, .int 0 0, .int 3 0, .ref 56, .bool true, .int 181 0, .ref 57, .none, .ref 58, .ref 59, .ref 60, .int 249 0, .int 18 0, vs "/claim/cut.py" 250] }
noncomputable def q36 (P : Params) : Obj := { cls := .type "function", data := Data.func { name := Str.ofString "need_writable", qualname := Str.ofString "need_writable", params := (dP (stm 7)), body := FuncBody.stmts (dB (stm 7)), scope := (dS (stm 7)), globals := 3, closure := [], defaults := .none, kwdefaults := .none, pyModule := vs "emacs.editing" 243, code := .ref 61 } }
noncomputable def q37 (P : Params) : Obj := { cls := .type "tuple", data := Data.seq #[vs "buffer" 255, vs "start" 256, vs "end" 257, vs "low" 258, vs "high" 259] }
noncomputable def q38 (P : Params) : Obj := { cls := .none, data := Data.func { name := Str.ofString "reached", qualname := Str.ofString "reached", params := (dP (stm 8)), body := FuncBody.stmts (dB (stm 8)), scope := (dS (stm 8)), globals := 0, closure := [], defaults := .none, kwdefaults := .none } }
noncomputable def q39 (P : Params) : Obj := { cls := .type "code", data := Data.fields #[vs "reached" 252, vs "reached" 253, vs "/claim/cut.py" 254, .int 21 0, .int 3 0, .int 0 0, .int 0 0, .int 3 0, .ref 63, .bool true, .int 181 0, .ref 64, .none, .ref 65, .ref 66, .ref 67, .int 260 0, .int 21 0, vs "/claim/cut.py" 261] }
noncomputable def q40 (P : Params) : Obj := { cls := .type "function", data := Data.func { name := Str.ofString "reached", qualname := Str.ofString "reached", params := (dP (stm 8)), body := FuncBody.stmts (dB (stm 8)), scope := (dS (stm 8)), globals := 3, closure := [], defaults := .none, kwdefaults := .none, pyModule := vs "emacs.editing" 243, code := .ref 68 } }
noncomputable def tr1 (P : Params) : BT := putT (tr0 P) [(2, q2 P), (3, q3 P), (12, q4 P), (15, boot_o_7 P), (16, boot_o_8 P), (17, q5 P), (18, boot_o_7 P), (19, q6 P), (20, q7 P), (21, q8 P), (22, boot_o_7 P), (23, boot_o_8 P), (24, q9 P), (25, boot_o_7 P), (26, q10 P), (27, q11 P), (28, q12 P), (29, boot_o_7 P), (30, boot_o_8 P), (31, q13 P), (32, boot_o_7 P), (33, q14 P), (34, q15 P), (35, q16 P), (36, q17 P), (37, q18 P), (38, q19 P), (39, boot_o_7 P), (40, q20 P), (41, q21 P), (42, q22 P), (43, boot_o_7 P), (44, boot_o_8 P), (45, q23 P), (46, boot_o_7 P), (47, q24 P), (48, q25 P), (49, q26 P), (50, q27 P), (51, q28 P), (52, q29 P), (53, q30 P), (54, q31 P), (55, q32 P), (56, boot_o_7 P), (57, boot_o_8 P), (58, q33 P), (59, boot_o_7 P), (60, q34 P), (61, q35 P), (62, q36 P), (63, boot_o_7 P), (64, boot_o_8 P), (65, q37 P), (66, boot_o_7 P), (67, q38 P), (68, q39 P), (69, q40 P)]
noncomputable def q41 (P : Params) : Obj := { cls := .type "dict", data := Data.dict #[en P "__name__" 165 (vs "emacs.countlines" 376), en P "__doc__" 166 (.none), en P "__package__" 167 (.none), en P "__loader__" 168 (Value.builtin "__main__.__loader__#opaque"), en P "__spec__" 169 (.none), en P "__annotations__" 170 (.ref 6), en P "__builtins__" 171 (.ref 4), en P "__file__" 173 (vs "/claim/cut.py" 172), en P "__cached__" 174 (.none), en P "_wall" 193 (.ref 21), en P "downcase" 202 (.ref 28), en P "fold" 209 (.ref 35), en P "LispSignal" 242 (.ref 52), en P "need_writable" 251 (.ref 62), en P "reached" 262 (.ref 69), en P "tell_ahead" 272 (.ref 76), en P "tell_behind" 283 (.ref 83), en P "text_out" 293 (.ref 90), en P "text_in" 302 (.ref 97), en P "hung_out" 311 (.ref 104), en P "hung_in" 321 (.ref 111), en P "put_in" 332 (.ref 118), en P "insert" 341 (.ref 126), en P "delete" 353 (.ref 133), en P "NEWLINE" 357 (.int 10 356), en P "line_start" 366 (.ref 140), en P "line_end" 375 (.ref 147)] 27 }
noncomputable def q42 (P : Params) : Obj := { cls := .none, data := Data.fields #[.int 1 0, .int 0 0, .ref 20, .int 5 0, .int 0 0, .ref 27, .int 9 0, .int 0 0, .ref 34, .int 12 0, .int 0 0, .ref 41, .int 18 0, .int 0 0, .ref 61, .int 21 0, .int 0 0, .ref 68, .int 26 0, .int 0 0, .ref 75, .int 29 0, .int 0 0, .ref 82, .int 33 0, .int 0 0, .ref 89, .int 41 0, .int 0 0, .ref 96, .int 48 0, .int 0 0, .ref 103, .int 53 0, .int 0 0, .ref 110, .int 58 0, .int 0 0, .ref 117, .int 70 0, .int 0 0, .ref 125, .int 72 0, .int 0 0, .ref 132, .int 85 0, .int 0 0, .ref 139, .int 90 0, .int 0 0, .ref 146] }
noncomputable def q43 (P : Params) : Obj := { cls := .type "tuple", data := Data.seq #[vs "buffer" 266, vs "start" 267, vs "end" 268, vs "listener" 269] }
noncomputable def q44 (P : Params) : Obj := { cls := .none, data := Data.func { name := Str.ofString "tell_ahead", qualname := Str.ofString "tell_ahead", params := (dP (stm 9)), body := FuncBody.stmts (dB (stm 9)), scope := (dS (stm 9)), globals := 0, closure := [], defaults := .none, kwdefaults := .none } }
noncomputable def q45 (P : Params) : Obj := { cls := .type "code", data := Data.fields #[vs "tell_ahead" 263, vs "tell_ahead" 264, vs "/claim/cut.py" 265, .int 26 0, .int 3 0, .int 0 0, .int 0 0, .int 3 0, .ref 70, .bool true, .int 181 0, .ref 71, .none, .ref 72, .ref 73, .ref 74, .int 270 0, .int 26 0, vs "/claim/cut.py" 271] }
noncomputable def q46 (P : Params) : Obj := { cls := .type "function", data := Data.func { name := Str.ofString "tell_ahead", qualname := Str.ofString "tell_ahead", params := (dP (stm 9)), body := FuncBody.stmts (dB (stm 9)), scope := (dS (stm 9)), globals := 3, closure := [], defaults := .none, kwdefaults := .none, pyModule := vs "emacs.editing" 243, code := .ref 75 } }
noncomputable def q47 (P : Params) : Obj := { cls := .type "tuple", data := Data.seq #[vs "buffer" 276, vs "start" 277, vs "end" 278, vs "old_length" 279, vs "listener" 280] }
noncomputable def q48 (P : Params) : Obj := { cls := .none, data := Data.func { name := Str.ofString "tell_behind", qualname := Str.ofString "tell_behind", params := (dP (stm 10)), body := FuncBody.stmts (dB (stm 10)), scope := (dS (stm 10)), globals := 0, closure := [], defaults := .none, kwdefaults := .none } }
noncomputable def q49 (P : Params) : Obj := { cls := .type "code", data := Data.fields #[vs "tell_behind" 273, vs "tell_behind" 274, vs "/claim/cut.py" 275, .int 29 0, .int 4 0, .int 0 0, .int 0 0, .int 3 0, .ref 77, .bool true, .int 181 0, .ref 78, .none, .ref 79, .ref 80, .ref 81, .int 281 0, .int 29 0, vs "/claim/cut.py" 282] }
noncomputable def q50 (P : Params) : Obj := { cls := .type "function", data := Data.func { name := Str.ofString "tell_behind", qualname := Str.ofString "tell_behind", params := (dP (stm 10)), body := FuncBody.stmts (dB (stm 10)), scope := (dS (stm 10)), globals := 3, closure := [], defaults := .none, kwdefaults := .none, pyModule := vs "emacs.editing" 243, code := .ref 82 } }
noncomputable def q51 (P : Params) : Obj := { cls := .type "tuple", data := Data.seq #[vs "buffer" 287, vs "start" 288, vs "end" 289, vs "gone" 290] }
noncomputable def q52 (P : Params) : Obj := { cls := .none, data := Data.func { name := Str.ofString "text_out", qualname := Str.ofString "text_out", params := (dP (stm 11)), body := FuncBody.stmts (dB (stm 11)), scope := (dS (stm 11)), globals := 0, closure := [], defaults := .none, kwdefaults := .none } }
noncomputable def q53 (P : Params) : Obj := { cls := .type "code", data := Data.fields #[vs "text_out" 284, vs "text_out" 285, vs "/claim/cut.py" 286, .int 33 0, .int 3 0, .int 0 0, .int 0 0, .int 3 0, .ref 84, .bool true, .int 181 0, .ref 85, .none, .ref 86, .ref 87, .ref 88, .int 291 0, .int 33 0, vs "/claim/cut.py" 292] }
noncomputable def q54 (P : Params) : Obj := { cls := .type "function", data := Data.func { name := Str.ofString "text_out", qualname := Str.ofString "text_out", params := (dP (stm 11)), body := FuncBody.stmts (dB (stm 11)), scope := (dS (stm 11)), globals := 3, closure := [], defaults := .none, kwdefaults := .none, pyModule := vs "emacs.editing" 243, code := .ref 89 } }
noncomputable def q55 (P : Params) : Obj := { cls := .type "tuple", data := Data.seq #[vs "buffer" 297, vs "place" 298, vs "codes" 299] }
noncomputable def q56 (P : Params) : Obj := { cls := .none, data := Data.func { name := Str.ofString "text_in", qualname := Str.ofString "text_in", params := (dP (stm 12)), body := FuncBody.stmts (dB (stm 12)), scope := (dS (stm 12)), globals := 0, closure := [], defaults := .none, kwdefaults := .none } }
noncomputable def q57 (P : Params) : Obj := { cls := .type "code", data := Data.fields #[vs "text_in" 294, vs "text_in" 295, vs "/claim/cut.py" 296, .int 41 0, .int 3 0, .int 0 0, .int 0 0, .int 3 0, .ref 91, .bool true, .int 181 0, .ref 92, .none, .ref 93, .ref 94, .ref 95, .int 300 0, .int 41 0, vs "/claim/cut.py" 301] }
noncomputable def q58 (P : Params) : Obj := { cls := .type "function", data := Data.func { name := Str.ofString "text_in", qualname := Str.ofString "text_in", params := (dP (stm 12)), body := FuncBody.stmts (dB (stm 12)), scope := (dS (stm 12)), globals := 3, closure := [], defaults := .none, kwdefaults := .none, pyModule := vs "emacs.editing" 243, code := .ref 96 } }
noncomputable def q59 (P : Params) : Obj := { cls := .type "tuple", data := Data.seq #[vs "buffer" 306, vs "start" 307, vs "end" 308] }
noncomputable def q60 (P : Params) : Obj := { cls := .none, data := Data.func { name := Str.ofString "hung_out", qualname := Str.ofString "hung_out", params := (dP (stm 13)), body := FuncBody.stmts (dB (stm 13)), scope := (dS (stm 13)), globals := 0, closure := [], defaults := .none, kwdefaults := .none } }
noncomputable def q61 (P : Params) : Obj := { cls := .type "code", data := Data.fields #[vs "hung_out" 303, vs "hung_out" 304, vs "/claim/cut.py" 305, .int 48 0, .int 3 0, .int 0 0, .int 0 0, .int 3 0, .ref 98, .bool true, .int 181 0, .ref 99, .none, .ref 100, .ref 101, .ref 102, .int 309 0, .int 48 0, vs "/claim/cut.py" 310] }
noncomputable def q62 (P : Params) : Obj := { cls := .type "function", data := Data.func { name := Str.ofString "hung_out", qualname := Str.ofString "hung_out", params := (dP (stm 13)), body := FuncBody.stmts (dB (stm 13)), scope := (dS (stm 13)), globals := 3, closure := [], defaults := .none, kwdefaults := .none, pyModule := vs "emacs.editing" 243, code := .ref 103 } }
noncomputable def q63 (P : Params) : Obj := { cls := .type "tuple", data := Data.seq #[vs "buffer" 315, vs "place" 316, vs "many" 317, vs "before_markers" 318] }
noncomputable def q64 (P : Params) : Obj := { cls := .none, data := Data.func { name := Str.ofString "hung_in", qualname := Str.ofString "hung_in", params := (dP (stm 14)), body := FuncBody.stmts (dB (stm 14)), scope := (dS (stm 14)), globals := 0, closure := [], defaults := .none, kwdefaults := .none } }
noncomputable def q65 (P : Params) : Obj := { cls := .type "code", data := Data.fields #[vs "hung_in" 312, vs "hung_in" 313, vs "/claim/cut.py" 314, .int 53 0, .int 4 0, .int 0 0, .int 0 0, .int 3 0, .ref 105, .bool true, .int 181 0, .ref 106, .none, .ref 107, .ref 108, .ref 109, .int 319 0, .int 53 0, vs "/claim/cut.py" 320] }
noncomputable def q66 (P : Params) : Obj := { cls := .type "function", data := Data.func { name := Str.ofString "hung_in", qualname := Str.ofString "hung_in", params := (dP (stm 14)), body := FuncBody.stmts (dB (stm 14)), scope := (dS (stm 14)), globals := 3, closure := [], defaults := .none, kwdefaults := .none, pyModule := vs "emacs.editing" 243, code := .ref 110 } }
noncomputable def q67 (P : Params) : Obj := { cls := .type "tuple", data := Data.seq #[vs "buffer" 325, vs "place" 326, vs "codes" 327, vs "before_markers" 328, vs "is_point_behind" 329] }
noncomputable def q68 (P : Params) : Obj := { cls := .none, data := Data.func { name := Str.ofString "put_in", qualname := Str.ofString "put_in", params := (dP (stm 15)), body := FuncBody.stmts (dB (stm 15)), scope := (dS (stm 15)), globals := 0, closure := [], defaults := .none, kwdefaults := .none } }
noncomputable def q69 (P : Params) : Obj := { cls := .type "code", data := Data.fields #[vs "put_in" 322, vs "put_in" 323, vs "/claim/cut.py" 324, .int 58 0, .int 5 0, .int 0 0, .int 0 0, .int 3 0, .ref 112, .bool true, .int 181 0, .ref 113, .none, .ref 114, .ref 115, .ref 116, .int 330 0, .int 58 0, vs "/claim/cut.py" 331] }
noncomputable def q70 (P : Params) : Obj := { cls := .type "function", data := Data.func { name := Str.ofString "put_in", qualname := Str.ofString "put_in", params := (dP (stm 15)), body := FuncBody.stmts (dB (stm 15)), scope := (dS (stm 15)), globals := 3, closure := [], defaults := .none, kwdefaults := .none, pyModule := vs "emacs.editing" 243, code := .ref 117 } }
noncomputable def q71 (P : Params) : Obj := { cls := .type "tuple", data := Data.seq #[.bool false] }
noncomputable def q72 (P : Params) : Obj := { cls := .type "tuple", data := Data.seq #[vs "buffer" 336, vs "codes" 337, vs "before_markers" 338] }
noncomputable def q73 (P : Params) : Obj := { cls := .none, data := Data.func { name := Str.ofString "insert", qualname := Str.ofString "insert", params := (dP (stm 16)), body := FuncBody.stmts (dB (stm 16)), scope := (dS (stm 16)), globals := 0, closure := [], defaults := .none, kwdefaults := .none } }
noncomputable def q74 (P : Params) : Obj := { cls := .type "code", data := Data.fields #[vs "insert" 333, vs "insert" 334, vs "/claim/cut.py" 335, .int 70 0, .int 3 0, .int 0 0, .int 0 0, .int 3 0, .ref 120, .bool true, .int 181 0, .ref 121, .none, .ref 122, .ref 123, .ref 124, .int 339 0, .int 70 0, vs "/claim/cut.py" 340] }
noncomputable def q75 (P : Params) : Obj := { cls := .type "function", data := Data.func { name := Str.ofString "insert", qualname := Str.ofString "insert", params := (dP (stm 16)), body := FuncBody.stmts (dB (stm 16)), scope := (dS (stm 16)), globals := 3, closure := [], defaults := .ref 119, kwdefaults := .none, pyModule := vs "emacs.editing" 243, code := .ref 125 } }
noncomputable def q76 (P : Params) : Obj := { cls := .type "tuple", data := Data.seq #[vs "buffer" 345, vs "start" 346, vs "end" 347, vs "low" 348, vs "high" 349, vs "gone" 350] }
noncomputable def q77 (P : Params) : Obj := { cls := .none, data := Data.func { name := Str.ofString "delete", qualname := Str.ofString "delete", params := (dP (stm 17)), body := FuncBody.stmts (dB (stm 17)), scope := (dS (stm 17)), globals := 0, closure := [], defaults := .none, kwdefaults := .none } }
noncomputable def q78 (P : Params) : Obj := { cls := .type "code", data := Data.fields #[vs "delete" 342, vs "delete" 343, vs "/claim/cut.py" 344, .int 72 0, .int 3 0, .int 0 0, .int 0 0, .int 3 0, .ref 127, .bool true, .int 181 0, .ref 128, .none, .ref 129, .ref 130, .ref 131, .int 351 0, .int 72 0, vs "/claim/cut.py" 352] }
noncomputable def q79 (P : Params) : Obj := { cls := .type "function", data := Data.func { name := Str.ofString "delete", qualname := Str.ofString "delete", params := (dP (stm 17)), body := FuncBody.stmts (dB (stm 17)), scope := (dS (stm 17)), globals := 3, closure := [], defaults := .none, kwdefaults := .none, pyModule := vs "emacs.editing" 243, code := .ref 132 } }
noncomputable def q80 (P : Params) : Obj := { cls := .type "tuple", data := Data.seq #[vs "view" 361, vs "place" 362, vs "at" 363] }
noncomputable def q81 (P : Params) : Obj := { cls := .none, data := Data.func { name := Str.ofString "line_start", qualname := Str.ofString "line_start", params := (dP (stm 20)), body := FuncBody.stmts (dB (stm 20)), scope := (dS (stm 20)), globals := 0, closure := [], defaults := .none, kwdefaults := .none } }
noncomputable def q82 (P : Params) : Obj := { cls := .type "code", data := Data.fields #[vs "line_start" 358, vs "line_start" 359, vs "/claim/cut.py" 360, .int 85 0, .int 2 0, .int 0 0, .int 0 0, .int 3 0, .ref 134, .bool true, .int 181 0, .ref 135, .none, .ref 136, .ref 137, .ref 138, .int 364 0, .int 85 0, vs "/claim/cut.py" 365] }
noncomputable def q83 (P : Params) : Obj := { cls := .type "function", data := Data.func { name := Str.ofString "line_start", qualname := Str.ofString "line_start", params := (dP (stm 20)), body := FuncBody.stmts (dB (stm 20)), scope := (dS (stm 20)), globals := 3, closure := [], defaults := .none, kwdefaults := .none, pyModule := vs "emacs.lines" 354, code := .ref 139 } }
noncomputable def q84 (P : Params) : Obj := { cls := .type "tuple", data := Data.seq #[vs "view" 370, vs "place" 371, vs "at" 372] }
noncomputable def q85 (P : Params) : Obj := { cls := .none, data := Data.func { name := Str.ofString "line_end", qualname := Str.ofString "line_end", params := (dP (stm 21)), body := FuncBody.stmts (dB (stm 21)), scope := (dS (stm 20)), globals := 0, closure := [], defaults := .none, kwdefaults := .none } }
noncomputable def q86 (P : Params) : Obj := { cls := .type "code", data := Data.fields #[vs "line_end" 367, vs "line_end" 368, vs "/claim/cut.py" 369, .int 90 0, .int 2 0, .int 0 0, .int 0 0, .int 3 0, .ref 141, .bool true, .int 181 0, .ref 142, .none, .ref 143, .ref 144, .ref 145, .int 373 0, .int 90 0, vs "/claim/cut.py" 374] }
noncomputable def q87 (P : Params) : Obj := { cls := .type "function", data := Data.func { name := Str.ofString "line_end", qualname := Str.ofString "line_end", params := (dP (stm 21)), body := FuncBody.stmts (dB (stm 21)), scope := (dS (stm 20)), globals := 3, closure := [], defaults := .none, kwdefaults := .none, pyModule := vs "emacs.lines" 354, code := .ref 146 } }
noncomputable def tr2 (P : Params) : BT := putT (tr1 P) [(3, q41 P), (12, q42 P), (70, boot_o_7 P), (71, boot_o_8 P), (72, q43 P), (73, boot_o_7 P), (74, q44 P), (75, q45 P), (76, q46 P), (77, boot_o_7 P), (78, boot_o_8 P), (79, q47 P), (80, boot_o_7 P), (81, q48 P), (82, q49 P), (83, q50 P), (84, boot_o_7 P), (85, boot_o_8 P), (86, q51 P), (87, boot_o_7 P), (88, q52 P), (89, q53 P), (90, q54 P), (91, boot_o_7 P), (92, boot_o_8 P), (93, q55 P), (94, boot_o_7 P), (95, q56 P), (96, q57 P), (97, q58 P), (98, boot_o_7 P), (99, boot_o_8 P), (100, q59 P), (101, boot_o_7 P), (102, q60 P), (103, q61 P), (104, q62 P), (105, boot_o_7 P), (106, boot_o_8 P), (107, q63 P), (108, boot_o_7 P), (109, q64 P), (110, q65 P), (111, q66 P), (112, boot_o_7 P), (113, boot_o_8 P), (114, q67 P), (115, boot_o_7 P), (116, q68 P), (117, q69 P), (118, q70 P), (119, q71 P), (120, boot_o_7 P), (121, boot_o_8 P), (122, q72 P), (123, boot_o_7 P), (124, q73 P), (125, q74 P), (126, q75 P), (127, boot_o_7 P), (128, boot_o_8 P), (129, q76 P), (130, boot_o_7 P), (131, q77 P), (132, q78 P), (133, q79 P), (134, boot_o_7 P), (135, boot_o_8 P), (136, q80 P), (137, boot_o_7 P), (138, q81 P), (139, q82 P), (140, q83 P), (141, boot_o_7 P), (142, boot_o_8 P), (143, q84 P), (144, boot_o_7 P), (145, q85 P), (146, q86 P), (147, q87 P)]
noncomputable def q88 (P : Params) : Obj := { cls := .type "dict", data := Data.dict #[en P "__name__" 165 (vs "emacs.countlines" 376), en P "__doc__" 166 (.none), en P "__package__" 167 (.none), en P "__loader__" 168 (Value.builtin "__main__.__loader__#opaque"), en P "__spec__" 169 (.none), en P "__annotations__" 170 (.ref 6), en P "__builtins__" 171 (.ref 4), en P "__file__" 173 (vs "/claim/cut.py" 172), en P "__cached__" 174 (.none), en P "_wall" 193 (.ref 21), en P "downcase" 202 (.ref 28), en P "fold" 209 (.ref 35), en P "LispSignal" 242 (.ref 52), en P "need_writable" 251 (.ref 62), en P "reached" 262 (.ref 69), en P "tell_ahead" 272 (.ref 76), en P "tell_behind" 283 (.ref 83), en P "text_out" 293 (.ref 90), en P "text_in" 302 (.ref 97), en P "hung_out" 311 (.ref 104), en P "hung_in" 321 (.ref 111), en P "put_in" 332 (.ref 118), en P "insert" 341 (.ref 126), en P "delete" 353 (.ref 133), en P "NEWLINE" 357 (.int 10 356), en P "line_start" 366 (.ref 140), en P "line_end" 375 (.ref 147), en P "Literal" 430 (.ref 178), en P "how_many" 445 (.ref 189), en P "row_matches" 456 (.ref 196), en P "rows_by" 474 (.ref 203)] 31 }
noncomputable def q89 (P : Params) : Obj := { cls := .none, data := Data.fields #[.int 1 0, .int 0 0, .ref 20, .int 5 0, .int 0 0, .ref 27, .int 9 0, .int 0 0, .ref 34, .int 12 0, .int 0 0, .ref 41, .int 18 0, .int 0 0, .ref 61, .int 21 0, .int 0 0, .ref 68, .int 26 0, .int 0 0, .ref 75, .int 29 0, .int 0 0, .ref 82, .int 33 0, .int 0 0, .ref 89, .int 41 0, .int 0 0, .ref 96, .int 48 0, .int 0 0, .ref 103, .int 53 0, .int 0 0, .ref 110, .int 58 0, .int 0 0, .ref 117, .int 70 0, .int 0 0, .ref 125, .int 72 0, .int 0 0, .ref 132, .int 85 0, .int 0 0, .ref 139, .int 90 0, .int 0 0, .ref 146, .int 96 0, .int 0 0, .ref 153, .int 114 0, .int 0 0, .ref 188, .int 123 0, .int 0 0, .ref 195, .int 126 0, .int 0 0, .ref 202] }
noncomputable def q90 (P : Params) : Obj := { cls := .type "dict", data := Data.dict #[en P "__module__" 385 (vs "emacs.countlines" 376), en P "__qualname__" 387 (vs "Literal" 386), en P "__firstlineno__" 389 (.int 96 388), en P "__init__" 398 (.ref 161), en P "fits" 409 (.ref 168), en P "next" 420 (.ref 175), en P "__static_attributes__" 423 (.ref 176)] 7 }
noncomputable def q91 (P : Params) : Obj := { cls := .none, data := Data.fields #[.int 98 0, .int 4 0, .ref 160, .int 102 0, .int 4 0, .ref 167, .int 109 0, .int 4 0, .ref 174] }
noncomputable def q92 (P : Params) : Obj := { cls := .type "code", data := Data.fields #[vs "Literal" 380, vs "Literal" 381, vs "/claim/cut.py" 382, .int 96 0, .int 0 0, .int 0 0, .int 0 0, .int 0 0, .ref 151, .bool false, .int 181 0, .ref 152, .none, .none, .none, .none, .int 383 0, .int 96 0, vs "/claim/cut.py" 384] }
noncomputable def q93 (P : Params) : Obj := { cls := .type "frame", slots := #[some (.ref 153), some (.ref 3), some (.ref 150), none, some (vs "emacs.countlines" 376), none, some (.ref 0)] }
noncomputable def q94 (P : Params) : Obj := { cls := .type "tuple", data := Data.seq #[vs "self" 393, vs "codes" 394, vs "is_folded" 395] }
noncomputable def q95 (P : Params) : Obj := { cls := .none, data := Data.func { name := Str.ofString "__init__", qualname := Str.ofString "Literal.__init__", params := (dP (sub 23 0)), body := FuncBody.stmts (dB (sub 23 0)), scope := (dS (sub 23 0)), globals := 0, closure := [], defaults := .none, kwdefaults := .none } }
noncomputable def q96 (P : Params) : Obj := { cls := .type "code", data := Data.fields #[vs "__init__" 390, vs "Literal.__init__" 391, vs "/claim/cut.py" 392, .int 98 0, .int 3 0, .int 0 0, .int 0 0, .int 3 0, .ref 155, .bool true, .int 181 0, .ref 156, .none, .ref 157, .ref 158, .ref 159, .int 396 0, .int 98 0, vs "/claim/cut.py" 397] }
noncomputable def q97 (P : Params) : Obj := { cls := .type "function", data := Data.func { name := Str.ofString "__init__", qualname := Str.ofString "Literal.__init__", params := (dP (sub 23 0)), body := FuncBody.stmts (dB (sub 23 0)), scope := (dS (sub 23 0)), globals := 3, closure := [], defaults := .none, kwdefaults := .none, pyModule := vs "emacs.countlines" 376, code := .ref 160 } }
noncomputable def q98 (P : Params) : Obj := { cls := .type "tuple", data := Data.seq #[vs "self" 402, vs "buffer" 403, vs "place" 404, vs "at" 405, vs "own" 406] }
noncomputable def q99 (P : Params) : Obj := { cls := .none, data := Data.func { name := Str.ofString "fits", qualname := Str.ofString "Literal.fits", params := (dP (sub 23 1)), body := FuncBody.stmts (dB (sub 23 1)), scope := (dS (sub 23 1)), globals := 0, closure := [], defaults := .none, kwdefaults := .none } }
noncomputable def q100 (P : Params) : Obj := { cls := .type "code", data := Data.fields #[vs "fits" 399, vs "Literal.fits" 400, vs "/claim/cut.py" 401, .int 102 0, .int 3 0, .int 0 0, .int 0 0, .int 3 0, .ref 162, .bool true, .int 181 0, .ref 163, .none, .ref 164, .ref 165, .ref 166, .int 407 0, .int 102 0, vs "/claim/cut.py" 408] }
noncomputable def q101 (P : Params) : Obj := { cls := .type "function", data := Data.func { name := Str.ofString "fits", qualname := Str.ofString "Literal.fits", params := (dP (sub 23 1)), body := FuncBody.stmts (dB (sub 23 1)), scope := (dS (sub 23 1)), globals := 3, closure := [], defaults := .none, kwdefaults := .none, pyModule := vs "emacs.countlines" 376, code := .ref 167 } }
noncomputable def q102 (P : Params) : Obj := { cls := .type "tuple", data := Data.seq #[vs "self" 413, vs "buffer" 414, vs "place" 415, vs "bound" 416, vs "start" 417] }
noncomputable def q103 (P : Params) : Obj := { cls := .none, data := Data.func { name := Str.ofString "next", qualname := Str.ofString "Literal.next", params := (dP (sub 23 2)), body := FuncBody.stmts (dB (sub 23 2)), scope := (dS (sub 23 2)), globals := 0, closure := [], defaults := .none, kwdefaults := .none } }
noncomputable def q104 (P : Params) : Obj := { cls := .type "code", data := Data.fields #[vs "next" 410, vs "Literal.next" 411, vs "/claim/cut.py" 412, .int 109 0, .int 4 0, .int 0 0, .int 0 0, .int 3 0, .ref 169, .bool true, .int 181 0, .ref 170, .none, .ref 171, .ref 172, .ref 173, .int 418 0, .int 109 0, vs "/claim/cut.py" 419] }
noncomputable def q105 (P : Params) : Obj := { cls := .type "function", data := Data.func { name := Str.ofString "next", qualname := Str.ofString "Literal.next", params := (dP (sub 23 2)), body := FuncBody.stmts (dB (sub 23 2)), scope := (dS (sub 23 2)), globals := 3, closure := [], defaults := .none, kwdefaults := .none, pyModule := vs "emacs.countlines" 376, code := .ref 174 } }
noncomputable def q106 (P : Params) : Obj := { cls := .type "tuple", data := Data.seq #[vs "codes" 421, vs "is_folded" 422] }
noncomputable def q107 (P : Params) : Obj := { cls := .type "dict", data := Data.dict #[en P "__module__" 385 (vs "emacs.countlines" 376), en P "__firstlineno__" 389 (.int 96 388), en P "__init__" 398 (.ref 161), en P "fits" 409 (.ref 168), en P "next" 420 (.ref 175), en P "__static_attributes__" 423 (.ref 176), en P "__dict__" 425 (.ref 179), en P "__weakref__" 427 (.ref 180), en P "__doc__" 428 (.none)] 4 }
noncomputable def q108 (P : Params) : Obj := { cls := .type "type", data := Data.cls { name := Str.ofString "Literal", bases := [.type "object"], mro := [.ref 178, .type "object"], ns := 177, qualname := Str.ofString "Literal" }, slots := #[none, none, some (vs "Literal" 378), some (vs "Literal" 386), some (Value.builtin "object.__new__"), some (.bool true)] }
noncomputable def q109 (P : Params) : Obj := { cls := .type "getset_descriptor", data := Data.fields #[vs "__dict__" 424, .ref 178, Value.builtin "function.__dict__", Value.builtin "function.__dict__#set"] }
noncomputable def q110 (P : Params) : Obj := { cls := .type "getset_descriptor", data := Data.fields #[vs "__weakref__" 426, .ref 178, Value.builtin "ExceptionGroup.__weakref__", .none] }
noncomputable def q111 (P : Params) : Obj := { cls := .type "super", data := Data.fields #[.ref 178, .ref 178, .ref 178] }
noncomputable def q112 (P : Params) : Obj := { cls := .type "builtin_function_or_method", data := Data.fields #[Value.builtin "object.__init_subclass__", .ref 178] }
noncomputable def q113 (P : Params) : Obj := { cls := .type "tuple", data := Data.seq #[vs "buffer" 434, vs "finder" 435, vs "start" 436, vs "end" 437, vs "low" 438, vs "high" 439, vs "many" 440, vs "found" 441, vs "at" 442] }
noncomputable def q114 (P : Params) : Obj := { cls := .none, data := Data.func { name := Str.ofString "how_many", qualname := Str.ofString "how_many", params := (dP (stm 24)), body := FuncBody.stmts (dB (stm 24)), scope := (dS (stm 24)), globals := 0, closure := [], defaults := .none, kwdefaults := .none } }
noncomputable def q115 (P : Params) : Obj := { cls := .type "code", data := Data.fields #[vs "how_many" 431, vs "how_many" 432, vs "/claim/cut.py" 433, .int 114 0, .int 4 0, .int 0 0, .int 0 0, .int 3 0, .ref 183, .bool true, .int 181 0, .ref 184, .none, .ref 185, .ref 186, .ref 187, .int 443 0, .int 114 0, vs "/claim/cut.py" 444] }
noncomputable def q116 (P : Params) : Obj := { cls := .type "function", data := Data.func { name := Str.ofString "how_many", qualname := Str.ofString "how_many", params := (dP (stm 24)), body := FuncBody.stmts (dB (stm 24)), scope := (dS (stm 24)), globals := 3, closure := [], defaults := .none, kwdefaults := .none, pyModule := vs "emacs.countlines" 376, code := .ref 188 } }
noncomputable def q117 (P : Params) : Obj := { cls := .type "tuple", data := Data.seq #[vs "buffer" 449, vs "finder" 450, vs "start" 451, vs "end" 452, vs "found" 453] }
noncomputable def q118 (P : Params) : Obj := { cls := .none, data := Data.func { name := Str.ofString "row_matches", qualname := Str.ofString "row_matches", params := (dP (stm 25)), body := FuncBody.stmts (dB (stm 25)), scope := (dS (stm 25)), globals := 0, closure := [], defaults := .none, kwdefaults := .none } }
noncomputable def q119 (P : Params) : Obj := { cls := .type "code", data := Data.fields #[vs "row_matches" 446, vs "row_matches" 447, vs "/claim/cut.py" 448, .int 123 0, .int 4 0, .int 0 0, .int 0 0, .int 3 0, .ref 190, .bool true, .int 181 0, .ref 191, .none, .ref 192, .ref 193, .ref 194, .int 454 0, .int 123 0, vs "/claim/cut.py" 455] }
noncomputable def q120 (P : Params) : Obj := { cls := .type "function", data := Data.func { name := Str.ofString "row_matches", qualname := Str.ofString "row_matches", params := (dP (stm 25)), body := FuncBody.stmts (dB (stm 25)), scope := (dS (stm 25)), globals := 3, closure := [], defaults := .none, kwdefaults := .none, pyModule := vs "emacs.countlines" 376, code := .ref 195 } }
noncomputable def q121 (P : Params) : Obj := { cls := .type "tuple", data := Data.seq #[vs "buffer" 460, vs "finder" 461, vs "start" 462, vs "end" 463, vs "is_kept" 464, vs "low" 465, vs "high" 466, vs "at" 467, vs "left" 468, vs "many" 469, vs "stop" 470, vs "after" 471] }
noncomputable def q122 (P : Params) : Obj := { cls := .none, data := Data.func { name := Str.ofString "rows_by", qualname := Str.ofString "rows_by", params := (dP (stm 26)), body := FuncBody.stmts (dB (stm 26)), scope := (dS (stm 26)), globals := 0, closure := [], defaults := .none, kwdefaults := .none } }
noncomputable def q123 (P : Params) : Obj := { cls := .type "code", data := Data.fields #[vs "rows_by" 457, vs "rows_by" 458, vs "/claim/cut.py" 459, .int 126 0, .int 5 0, .int 0 0, .int 0 0, .int 3 0, .ref 197, .bool true, .int 181 0, .ref 198, .none, .ref 199, .ref 200, .ref 201, .int 472 0, .int 126 0, vs "/claim/cut.py" 473] }
noncomputable def q124 (P : Params) : Obj := { cls := .type "function", data := Data.func { name := Str.ofString "rows_by", qualname := Str.ofString "rows_by", params := (dP (stm 26)), body := FuncBody.stmts (dB (stm 26)), scope := (dS (stm 26)), globals := 3, closure := [], defaults := .none, kwdefaults := .none, pyModule := vs "emacs.countlines" 376, code := .ref 202 } }
noncomputable def tr3 (P : Params) : BT := putT (tr2 P) [(3, q88 P), (12, q89 P), (148, boot_o_7 P), (149, q18 P), (150, q90 P), (151, boot_o_7 P), (152, q91 P), (153, q92 P), (154, q93 P), (155, boot_o_7 P), (156, boot_o_8 P), (157, q94 P), (158, boot_o_7 P), (159, q95 P), (160, q96 P), (161, q97 P), (162, boot_o_7 P), (163, boot_o_8 P), (164, q98 P), (165, boot_o_7 P), (166, q99 P), (167, q100 P), (168, q101 P), (169, boot_o_7 P), (170, boot_o_8 P), (171, q102 P), (172, boot_o_7 P), (173, q103 P), (174, q104 P), (175, q105 P), (176, q106 P), (177, q107 P), (178, q108 P), (179, q109 P), (180, q110 P), (181, q111 P), (182, q112 P), (183, boot_o_7 P), (184, boot_o_8 P), (185, q113 P), (186, boot_o_7 P), (187, q114 P), (188, q115 P), (189, q116 P), (190, boot_o_7 P), (191, boot_o_8 P), (192, q117 P), (193, boot_o_7 P), (194, q118 P), (195, q119 P), (196, q120 P), (197, boot_o_7 P), (198, boot_o_8 P), (199, q121 P), (200, boot_o_7 P), (201, q122 P), (202, q123 P), (203, q124 P)]
noncomputable def q125 (P : Params) : Obj := { cls := .type "dict", data := Data.dict #[en P "__name__" 165 (vs "emacs.gap" 495), en P "__doc__" 166 (.none), en P "__package__" 167 (.none), en P "__loader__" 168 (Value.builtin "__main__.__loader__#opaque"), en P "__spec__" 169 (.none), en P "__annotations__" 170 (.ref 6), en P "__builtins__" 171 (.ref 4), en P "__file__" 173 (vs "/claim/cut.py" 172), en P "__cached__" 174 (.none), en P "_wall" 193 (.ref 21), en P "downcase" 202 (.ref 28), en P "fold" 209 (.ref 35), en P "LispSignal" 242 (.ref 52), en P "need_writable" 251 (.ref 62), en P "reached" 262 (.ref 69), en P "tell_ahead" 272 (.ref 76), en P "tell_behind" 283 (.ref 83), en P "text_out" 293 (.ref 90), en P "text_in" 302 (.ref 97), en P "hung_out" 311 (.ref 104), en P "hung_in" 321 (.ref 111), en P "put_in" 332 (.ref 118), en P "insert" 341 (.ref 126), en P "delete" 353 (.ref 133), en P "NEWLINE" 357 (.int 10 356), en P "line_start" 366 (.ref 140), en P "line_end" 375 (.ref 147), en P "Literal" 430 (.ref 178), en P "how_many" 445 (.ref 189), en P "row_matches" 456 (.ref 196), en P "rows_by" 474 (.ref 203), en P "keep_lines" 484 (.ref 210), en P "flush_lines" 494 (.ref 217)] 33 }
noncomputable def q126 (P : Params) : Obj := { cls := .none, data := Data.fields #[.int 1 0, .int 0 0, .ref 20, .int 5 0, .int 0 0, .ref 27, .int 9 0, .int 0 0, .ref 34, .int 12 0, .int 0 0, .ref 41, .int 18 0, .int 0 0, .ref 61, .int 21 0, .int 0 0, .ref 68, .int 26 0, .int 0 0, .ref 75, .int 29 0, .int 0 0, .ref 82, .int 33 0, .int 0 0, .ref 89, .int 41 0, .int 0 0, .ref 96, .int 48 0, .int 0 0, .ref 103, .int 53 0, .int 0 0, .ref 110, .int 58 0, .int 0 0, .ref 117, .int 70 0, .int 0 0, .ref 125, .int 72 0, .int 0 0, .ref 132, .int 85 0, .int 0 0, .ref 139, .int 90 0, .int 0 0, .ref 146, .int 96 0, .int 0 0, .ref 153, .int 114 0, .int 0 0, .ref 188, .int 123 0, .int 0 0, .ref 195, .int 126 0, .int 0 0, .ref 202, .int 142 0, .int 0 0, .ref 209, .int 144 0, .int 0 0, .ref 216] }
noncomputable def q127 (P : Params) : Obj := { cls := .type "tuple", data := Data.seq #[vs "buffer" 478, vs "finder" 479, vs "start" 480, vs "end" 481] }
noncomputable def q128 (P : Params) : Obj := { cls := .none, data := Data.func { name := Str.ofString "keep_lines", qualname := Str.ofString "keep_lines", params := (dP (stm 27)), body := FuncBody.stmts (dB (stm 27)), scope := (dS (stm 27)), globals := 0, closure := [], defaults := .none, kwdefaults := .none } }
noncomputable def q129 (P : Params) : Obj := { cls := .type "code", data := Data.fields #[vs "keep_lines" 475, vs "keep_lines" 476, vs "/claim/cut.py" 477, .int 142 0, .int 4 0, .int 0 0, .int 0 0, .int 3 0, .ref 204, .bool true, .int 181 0, .ref 205, .none, .ref 206, .ref 207, .ref 208, .int 482 0, .int 142 0, vs "/claim/cut.py" 483] }
noncomputable def q130 (P : Params) : Obj := { cls := .type "function", data := Data.func { name := Str.ofString "keep_lines", qualname := Str.ofString "keep_lines", params := (dP (stm 27)), body := FuncBody.stmts (dB (stm 27)), scope := (dS (stm 27)), globals := 3, closure := [], defaults := .none, kwdefaults := .none, pyModule := vs "emacs.countlines" 376, code := .ref 209 } }
noncomputable def q131 (P : Params) : Obj := { cls := .type "tuple", data := Data.seq #[vs "buffer" 488, vs "finder" 489, vs "start" 490, vs "end" 491] }
noncomputable def q132 (P : Params) : Obj := { cls := .none, data := Data.func { name := Str.ofString "flush_lines", qualname := Str.ofString "flush_lines", params := (dP (stm 28)), body := FuncBody.stmts (dB (stm 28)), scope := (dS (stm 27)), globals := 0, closure := [], defaults := .none, kwdefaults := .none } }
noncomputable def q133 (P : Params) : Obj := { cls := .type "code", data := Data.fields #[vs "flush_lines" 485, vs "flush_lines" 486, vs "/claim/cut.py" 487, .int 144 0, .int 4 0, .int 0 0, .int 0 0, .int 3 0, .ref 211, .bool true, .int 181 0, .ref 212, .none, .ref 213, .ref 214, .ref 215, .int 492 0, .int 144 0, vs "/claim/cut.py" 493] }
noncomputable def q134 (P : Params) : Obj := { cls := .type "function", data := Data.func { name := Str.ofString "flush_lines", qualname := Str.ofString "flush_lines", params := (dP (stm 28)), body := FuncBody.stmts (dB (stm 28)), scope := (dS (stm 27)), globals := 3, closure := [], defaults := .none, kwdefaults := .none, pyModule := vs "emacs.countlines" 376, code := .ref 216 } }
noncomputable def tr4 (P : Params) : BT := putT (tr3 P) [(3, q125 P), (12, q126 P), (204, boot_o_7 P), (205, boot_o_8 P), (206, q127 P), (207, boot_o_7 P), (208, q128 P), (209, q129 P), (210, q130 P), (211, boot_o_7 P), (212, boot_o_8 P), (213, q131 P), (214, boot_o_7 P), (215, q132 P), (216, q133 P), (217, q134 P)]
noncomputable def q135 (P : Params) : Obj := { cls := .type "dict", data := Data.dict #[en P "__name__" 165 (vs "emacs.gap" 495), en P "__doc__" 166 (.none), en P "__package__" 167 (.none), en P "__loader__" 168 (Value.builtin "__main__.__loader__#opaque"), en P "__spec__" 169 (.none), en P "__annotations__" 170 (.ref 6), en P "__builtins__" 171 (.ref 4), en P "__file__" 173 (vs "/claim/cut.py" 172), en P "__cached__" 174 (.none), en P "_wall" 193 (.ref 21), en P "downcase" 202 (.ref 28), en P "fold" 209 (.ref 35), en P "LispSignal" 242 (.ref 52), en P "need_writable" 251 (.ref 62), en P "reached" 262 (.ref 69), en P "tell_ahead" 272 (.ref 76), en P "tell_behind" 283 (.ref 83), en P "text_out" 293 (.ref 90), en P "text_in" 302 (.ref 97), en P "hung_out" 311 (.ref 104), en P "hung_in" 321 (.ref 111), en P "put_in" 332 (.ref 118), en P "insert" 341 (.ref 126), en P "delete" 353 (.ref 133), en P "NEWLINE" 357 (.int 10 356), en P "line_start" 366 (.ref 140), en P "line_end" 375 (.ref 147), en P "Literal" 430 (.ref 178), en P "how_many" 445 (.ref 189), en P "row_matches" 456 (.ref 196), en P "rows_by" 474 (.ref 203), en P "keep_lines" 484 (.ref 210), en P "flush_lines" 494 (.ref 217), en P "GapText" 614 (.ref 304)] 34 }
noncomputable def q136 (P : Params) : Obj := { cls := .none, data := Data.fields #[.int 1 0, .int 0 0, .ref 20, .int 5 0, .int 0 0, .ref 27, .int 9 0, .int 0 0, .ref 34, .int 12 0, .int 0 0, .ref 41, .int 18 0, .int 0 0, .ref 61, .int 21 0, .int 0 0, .ref 68, .int 26 0, .int 0 0, .ref 75, .int 29 0, .int 0 0, .ref 82, .int 33 0, .int 0 0, .ref 89, .int 41 0, .int 0 0, .ref 96, .int 48 0, .int 0 0, .ref 103, .int 53 0, .int 0 0, .ref 110, .int 58 0, .int 0 0, .ref 117, .int 70 0, .int 0 0, .ref 125, .int 72 0, .int 0 0, .ref 132, .int 85 0, .int 0 0, .ref 139, .int 90 0, .int 0 0, .ref 146, .int 96 0, .int 0 0, .ref 153, .int 114 0, .int 0 0, .ref 188, .int 123 0, .int 0 0, .ref 195, .int 126 0, .int 0 0, .ref 202, .int 142 0, .int 0 0, .ref 209, .int 144 0, .int 0 0, .ref 216, .int 147 0, .int 0 0, .ref 223] }
noncomputable def q137 (P : Params) : Obj := { cls := .type "dict", data := Data.dict #[en P "__module__" 504 (vs "emacs.gap" 495), en P "__qualname__" 506 (vs "GapText" 505), en P "__firstlineno__" 508 (.int 147 507), en P "__init__" 517 (.ref 231), en P "size" 524 (.ref 238), en P "code" 532 (.ref 245), en P "codes" 542 (.ref 252), en P "move_gap" 551 (.ref 259), en P "widen_gap" 560 (.ref 266), en P "insert" 569 (.ref 273), en P "delete" 579 (.ref 280), en P "put" 588 (.ref 287), en P "narrow_gap" 595 (.ref 294), en P "is_whole" 602 (.ref 301), en P "__static_attributes__" 607 (.ref 302)] 15 }
noncomputable def q138 (P : Params) : Obj := { cls := .none, data := Data.fields #[.int 149 0, .int 4 0, .ref 230, .int 155 0, .int 4 0, .ref 237, .int 158 0, .int 4 0, .ref 244, .int 163 0, .int 4 0, .ref 251, .int 171 0, .int 4 0, .ref 258, .int 182 0, .int 4 0, .ref 265, .int 188 0, .int 4 0, .ref 272, .int 194 0, .int 4 0, .ref 279, .int 204 0, .int 4 0, .ref 286, .int 207 0, .int 4 0, .ref 293, .int 210 0, .int 4 0, .ref 300] }
noncomputable def q139 (P : Params) : Obj := { cls := .type "code", data := Data.fields #[vs "GapText" 499, vs "GapText" 500, vs "/claim/cut.py" 501, .int 147 0, .int 0 0, .int 0 0, .int 0 0, .int 0 0, .ref 221, .bool false, .int 181 0, .ref 222, .none, .none, .none, .none, .int 502 0, .int 147 0, vs "/claim/cut.py" 503] }
noncomputable def q140 (P : Params) : Obj := { cls := .type "frame", slots := #[some (.ref 223), some (.ref 3), some (.ref 220), none, some (vs "emacs.gap" 495), none, some (.ref 0)] }
noncomputable def q141 (P : Params) : Obj := { cls := .type "tuple", data := Data.seq #[vs "self" 512, vs "codes" 513, vs "room" 514] }
noncomputable def q142 (P : Params) : Obj := { cls := .none, data := Data.func { name := Str.ofString "__init__", qualname := Str.ofString "GapText.__init__", params := (dP (sub 30 0)), body := FuncBody.stmts (dB (sub 30 0)), scope := (dS (sub 30 0)), globals := 0, closure := [], defaults := .none, kwdefaults := .none } }
noncomputable def q143 (P : Params) : Obj := { cls := .type "code", data := Data.fields #[vs "__init__" 509, vs "GapText.__init__" 510, vs "/claim/cut.py" 511, .int 149 0, .int 3 0, .int 0 0, .int 0 0, .int 3 0, .ref 225, .bool true, .int 181 0, .ref 226, .none, .ref 227, .ref 228, .ref 229, .int 515 0, .int 149 0, vs "/claim/cut.py" 516] }
noncomputable def q144 (P : Params) : Obj := { cls := .type "function", data := Data.func { name := Str.ofString "__init__", qualname := Str.ofString "GapText.__init__", params := (dP (sub 30 0)), body := FuncBody.stmts (dB (sub 30 0)), scope := (dS (sub 30 0)), globals := 3, closure := [], defaults := .none, kwdefaults := .none, pyModule := vs "emacs.gap" 495, code := .ref 230 } }
noncomputable def q145 (P : Params) : Obj := { cls := .type "tuple", data := Data.seq #[vs "self" 521] }
noncomputable def q146 (P : Params) : Obj := { cls := .none, data := Data.func { name := Str.ofString "size", qualname := Str.ofString "GapText.size", params := (dP (sub 30 1)), body := FuncBody.stmts (dB (sub 30 1)), scope := (dS (sub 30 1)), globals := 0, closure := [], defaults := .none, kwdefaults := .none } }
noncomputable def q147 (P : Params) : Obj := { cls := .type "code", data := Data.fields #[vs "size" 518, vs "GapText.size" 519, vs "/claim/cut.py" 520, .int 155 0, .int 1 0, .int 0 0, .int 0 0, .int 3 0, .ref 232, .bool true, .int 181 0, .ref 233, .none, .ref 234, .ref 235, .ref 236, .int 522 0, .int 155 0, vs "/claim/cut.py" 523] }
noncomputable def q148 (P : Params) : Obj := { cls := .type "function", data := Data.func { name := Str.ofString "size", qualname := Str.ofString "GapText.size", params := (dP (sub 30 1)), body := FuncBody.stmts (dB (sub 30 1)), scope := (dS (sub 30 1)), globals := 3, closure := [], defaults := .none, kwdefaults := .none, pyModule := vs "emacs.gap" 495, code := .ref 237 } }
noncomputable def q149 (P : Params) : Obj := { cls := .type "tuple", data := Data.seq #[vs "self" 528, vs "at" 529] }
noncomputable def q150 (P : Params) : Obj := { cls := .none, data := Data.func { name := Str.ofString "code", qualname := Str.ofString "GapText.code", params := (dP (sub 30 2)), body := FuncBody.stmts (dB (sub 30 2)), scope := (dS (sub 30 2)), globals := 0, closure := [], defaults := .none, kwdefaults := .none } }
noncomputable def q151 (P : Params) : Obj := { cls := .type "code", data := Data.fields #[vs "code" 525, vs "GapText.code" 526, vs "/claim/cut.py" 527, .int 158 0, .int 2 0, .int 0 0, .int 0 0, .int 3 0, .ref 239, .bool true, .int 181 0, .ref 240, .none, .ref 241, .ref 242, .ref 243, .int 530 0, .int 158 0, vs "/claim/cut.py" 531] }
noncomputable def q152 (P : Params) : Obj := { cls := .type "function", data := Data.func { name := Str.ofString "code", qualname := Str.ofString "GapText.code", params := (dP (sub 30 2)), body := FuncBody.stmts (dB (sub 30 2)), scope := (dS (sub 30 2)), globals := 3, closure := [], defaults := .none, kwdefaults := .none, pyModule := vs "emacs.gap" 495, code := .ref 244 } }
noncomputable def q153 (P : Params) : Obj := { cls := .type "tuple", data := Data.seq #[vs "self" 536, vs "start" 537, vs "end" 538, vs "shift" 539] }
noncomputable def q154 (P : Params) : Obj := { cls := .none, data := Data.func { name := Str.ofString "codes", qualname := Str.ofString "GapText.codes", params := (dP (sub 30 3)), body := FuncBody.stmts (dB (sub 30 3)), scope := (dS (sub 30 3)), globals := 0, closure := [], defaults := .none, kwdefaults := .none } }
noncomputable def q155 (P : Params) : Obj := { cls := .type "code", data := Data.fields #[vs "codes" 533, vs "GapText.codes" 534, vs "/claim/cut.py" 535, .int 163 0, .int 3 0, .int 0 0, .int 0 0, .int 3 0, .ref 246, .bool true, .int 181 0, .ref 247, .none, .ref 248, .ref 249, .ref 250, .int 540 0, .int 163 0, vs "/claim/cut.py" 541] }
noncomputable def q156 (P : Params) : Obj := { cls := .type "function", data := Data.func { name := Str.ofString "codes", qualname := Str.ofString "GapText.codes", params := (dP (sub 30 3)), body := FuncBody.stmts (dB (sub 30 3)), scope := (dS (sub 30 3)), globals := 3, closure := [], defaults := .none, kwdefaults := .none, pyModule := vs "emacs.gap" 495, code := .ref 251 } }
noncomputable def q157 (P : Params) : Obj := { cls := .type "tuple", data := Data.seq #[vs "self" 546, vs "at" 547, vs "moved" 548] }
noncomputable def q158 (P : Params) : Obj := { cls := .none, data := Data.func { name := Str.ofString "move_gap", qualname := Str.ofString "GapText.move_gap", params := (dP (sub 30 4)), body := FuncBody.stmts (dB (sub 30 4)), scope := (dS (sub 30 4)), globals := 0, closure := [], defaults := .none, kwdefaults := .none } }
noncomputable def q159 (P : Params) : Obj := { cls := .type "code", data := Data.fields #[vs "move_gap" 543, vs "GapText.move_gap" 544, vs "/claim/cut.py" 545, .int 171 0, .int 2 0, .int 0 0, .int 0 0, .int 3 0, .ref 253, .bool true, .int 181 0, .ref 254, .none, .ref 255, .ref 256, .ref 257, .int 549 0, .int 171 0, vs "/claim/cut.py" 550] }
noncomputable def q160 (P : Params) : Obj := { cls := .type "function", data := Data.func { name := Str.ofString "move_gap", qualname := Str.ofString "GapText.move_gap", params := (dP (sub 30 4)), body := FuncBody.stmts (dB (sub 30 4)), scope := (dS (sub 30 4)), globals := 3, closure := [], defaults := .none, kwdefaults := .none, pyModule := vs "emacs.gap" 495, code := .ref 258 } }
noncomputable def q161 (P : Params) : Obj := { cls := .type "tuple", data := Data.seq #[vs "self" 555, vs "wanted" 556, vs "lack" 557] }
noncomputable def q162 (P : Params) : Obj := { cls := .none, data := Data.func { name := Str.ofString "widen_gap", qualname := Str.ofString "GapText.widen_gap", params := (dP (sub 30 5)), body := FuncBody.stmts (dB (sub 30 5)), scope := (dS (sub 30 5)), globals := 0, closure := [], defaults := .none, kwdefaults := .none } }
noncomputable def q163 (P : Params) : Obj := { cls := .type "code", data := Data.fields #[vs "widen_gap" 552, vs "GapText.widen_gap" 553, vs "/claim/cut.py" 554, .int 182 0, .int 2 0, .int 0 0, .int 0 0, .int 3 0, .ref 260, .bool true, .int 181 0, .ref 261, .none, .ref 262, .ref 263, .ref 264, .int 558 0, .int 182 0, vs "/claim/cut.py" 559] }
noncomputable def q164 (P : Params) : Obj := { cls := .type "function", data := Data.func { name := Str.ofString "widen_gap", qualname := Str.ofString "GapText.widen_gap", params := (dP (sub 30 5)), body := FuncBody.stmts (dB (sub 30 5)), scope := (dS (sub 30 5)), globals := 3, closure := [], defaults := .none, kwdefaults := .none, pyModule := vs "emacs.gap" 495, code := .ref 265 } }
noncomputable def q165 (P : Params) : Obj := { cls := .type "tuple", data := Data.seq #[vs "self" 564, vs "at" 565, vs "codes" 566] }
noncomputable def q166 (P : Params) : Obj := { cls := .none, data := Data.func { name := Str.ofString "insert", qualname := Str.ofString "GapText.insert", params := (dP (sub 30 6)), body := FuncBody.stmts (dB (sub 30 6)), scope := (dS (sub 30 6)), globals := 0, closure := [], defaults := .none, kwdefaults := .none } }
noncomputable def q167 (P : Params) : Obj := { cls := .type "code", data := Data.fields #[vs "insert" 561, vs "GapText.insert" 562, vs "/claim/cut.py" 563, .int 188 0, .int 3 0, .int 0 0, .int 0 0, .int 3 0, .ref 267, .bool true, .int 181 0, .ref 268, .none, .ref 269, .ref 270, .ref 271, .int 567 0, .int 188 0, vs "/claim/cut.py" 568] }
noncomputable def q168 (P : Params) : Obj := { cls := .type "function", data := Data.func { name := Str.ofString "insert", qualname := Str.ofString "GapText.insert", params := (dP (sub 30 6)), body := FuncBody.stmts (dB (sub 30 6)), scope := (dS (sub 30 6)), globals := 3, closure := [], defaults := .none, kwdefaults := .none, pyModule := vs "emacs.gap" 495, code := .ref 272 } }
noncomputable def q169 (P : Params) : Obj := { cls := .type "tuple", data := Data.seq #[vs "self" 573, vs "start" 574, vs "end" 575, vs "gone" 576] }
noncomputable def q170 (P : Params) : Obj := { cls := .none, data := Data.func { name := Str.ofString "delete", qualname := Str.ofString "GapText.delete", params := (dP (sub 30 7)), body := FuncBody.stmts (dB (sub 30 7)), scope := (dS (sub 30 7)), globals := 0, closure := [], defaults := .none, kwdefaults := .none } }
noncomputable def q171 (P : Params) : Obj := { cls := .type "code", data := Data.fields #[vs "delete" 570, vs "GapText.delete" 571, vs "/claim/cut.py" 572, .int 194 0, .int 3 0, .int 0 0, .int 0 0, .int 3 0, .ref 274, .bool true, .int 181 0, .ref 275, .none, .ref 276, .ref 277, .ref 278, .int 577 0, .int 194 0, vs "/claim/cut.py" 578] }
noncomputable def q172 (P : Params) : Obj := { cls := .type "function", data := Data.func { name := Str.ofString "delete", qualname := Str.ofString "GapText.delete", params := (dP (sub 30 7)), body := FuncBody.stmts (dB (sub 30 7)), scope := (dS (sub 30 7)), globals := 3, closure := [], defaults := .none, kwdefaults := .none, pyModule := vs "emacs.gap" 495, code := .ref 279 } }
noncomputable def q173 (P : Params) : Obj := { cls := .type "tuple", data := Data.seq #[vs "self" 583, vs "at" 584, vs "code" 585] }
noncomputable def q174 (P : Params) : Obj := { cls := .none, data := Data.func { name := Str.ofString "put", qualname := Str.ofString "GapText.put", params := (dP (sub 30 8)), body := FuncBody.stmts (dB (sub 30 8)), scope := (dS (sub 30 8)), globals := 0, closure := [], defaults := .none, kwdefaults := .none } }
noncomputable def q175 (P : Params) : Obj := { cls := .type "code", data := Data.fields #[vs "put" 580, vs "GapText.put" 581, vs "/claim/cut.py" 582, .int 204 0, .int 3 0, .int 0 0, .int 0 0, .int 3 0, .ref 281, .bool true, .int 181 0, .ref 282, .none, .ref 283, .ref 284, .ref 285, .int 586 0, .int 204 0, vs "/claim/cut.py" 587] }
noncomputable def q176 (P : Params) : Obj := { cls := .type "function", data := Data.func { name := Str.ofString "put", qualname := Str.ofString "GapText.put", params := (dP (sub 30 8)), body := FuncBody.stmts (dB (sub 30 8)), scope := (dS (sub 30 8)), globals := 3, closure := [], defaults := .none, kwdefaults := .none, pyModule := vs "emacs.gap" 495, code := .ref 286 } }
noncomputable def q177 (P : Params) : Obj := { cls := .type "tuple", data := Data.seq #[vs "self" 592] }
noncomputable def q178 (P : Params) : Obj := { cls := .none, data := Data.func { name := Str.ofString "narrow_gap", qualname := Str.ofString "GapText.narrow_gap", params := (dP (sub 30 9)), body := FuncBody.stmts (dB (sub 30 9)), scope := (dS (sub 30 9)), globals := 0, closure := [], defaults := .none, kwdefaults := .none } }
noncomputable def q179 (P : Params) : Obj := { cls := .type "code", data := Data.fields #[vs "narrow_gap" 589, vs "GapText.narrow_gap" 590, vs "/claim/cut.py" 591, .int 207 0, .int 1 0, .int 0 0, .int 0 0, .int 3 0, .ref 288, .bool true, .int 181 0, .ref 289, .none, .ref 290, .ref 291, .ref 292, .int 593 0, .int 207 0, vs "/claim/cut.py" 594] }
noncomputable def q180 (P : Params) : Obj := { cls := .type "function", data := Data.func { name := Str.ofString "narrow_gap", qualname := Str.ofString "GapText.narrow_gap", params := (dP (sub 30 9)), body := FuncBody.stmts (dB (sub 30 9)), scope := (dS (sub 30 9)), globals := 3, closure := [], defaults := .none, kwdefaults := .none, pyModule := vs "emacs.gap" 495, code := .ref 293 } }
noncomputable def q181 (P : Params) : Obj := { cls := .type "tuple", data := Data.seq #[vs "self" 599] }
noncomputable def q182 (P : Params) : Obj := { cls := .none, data := Data.func { name := Str.ofString "is_whole", qualname := Str.ofString "GapText.is_whole", params := (dP (sub 30 10)), body := FuncBody.stmts (dB (sub 30 10)), scope := (dS (sub 30 9)), globals := 0, closure := [], defaults := .none, kwdefaults := .none } }
noncomputable def q183 (P : Params) : Obj := { cls := .type "code", data := Data.fields #[vs "is_whole" 596, vs "GapText.is_whole" 597, vs "/claim/cut.py" 598, .int 210 0, .int 1 0, .int 0 0, .int 0 0, .int 3 0, .ref 295, .bool true, .int 181 0, .ref 296, .none, .ref 297, .ref 298, .ref 299, .int 600 0, .int 210 0, vs "/claim/cut.py" 601] }
noncomputable def q184 (P : Params) : Obj := { cls := .type "function", data := Data.func { name := Str.ofString "is_whole", qualname := Str.ofString "GapText.is_whole", params := (dP (sub 30 10)), body := FuncBody.stmts (dB (sub 30 10)), scope := (dS (sub 30 9)), globals := 3, closure := [], defaults := .none, kwdefaults := .none, pyModule := vs "emacs.gap" 495, code := .ref 300 } }
noncomputable def q185 (P : Params) : Obj := { cls := .type "tuple", data := Data.seq #[vs "cells" 603, vs "gap_end" 604, vs "gap_start" 605, vs "room" 606] }
noncomputable def q186 (P : Params) : Obj := { cls := .type "dict", data := Data.dict #[en P "__module__" 504 (vs "emacs.gap" 495), en P "__firstlineno__" 508 (.int 147 507), en P "__init__" 517 (.ref 231), en P "size" 524 (.ref 238), en P "code" 532 (.ref 245), en P "codes" 542 (.ref 252), en P "move_gap" 551 (.ref 259), en P "widen_gap" 560 (.ref 266), en P "insert" 569 (.ref 273), en P "delete" 579 (.ref 280), en P "put" 588 (.ref 287), en P "narrow_gap" 595 (.ref 294), en P "is_whole" 602 (.ref 301), en P "__static_attributes__" 607 (.ref 302), en P "__dict__" 609 (.ref 305), en P "__weakref__" 611 (.ref 306), en P "__doc__" 612 (.none)] 4 }
noncomputable def q187 (P : Params) : Obj := { cls := .type "type", data := Data.cls { name := Str.ofString "GapText", bases := [.type "object"], mro := [.ref 304, .type "object"], ns := 303, qualname := Str.ofString "GapText" }, slots := #[none, none, some (vs "GapText" 497), some (vs "GapText" 505), some (Value.builtin "object.__new__"), some (.bool true)] }
noncomputable def q188 (P : Params) : Obj := { cls := .type "getset_descriptor", data := Data.fields #[vs "__dict__" 608, .ref 304, Value.builtin "function.__dict__", Value.builtin "function.__dict__#set"] }
noncomputable def q189 (P : Params) : Obj := { cls := .type "getset_descriptor", data := Data.fields #[vs "__weakref__" 610, .ref 304, Value.builtin "ExceptionGroup.__weakref__", .none] }
noncomputable def q190 (P : Params) : Obj := { cls := .type "super", data := Data.fields #[.ref 304, .ref 304, .ref 304] }
noncomputable def q191 (P : Params) : Obj := { cls := .type "builtin_function_or_method", data := Data.fields #[Value.builtin "object.__init_subclass__", .ref 304] }
noncomputable def tr5 (P : Params) : BT := putT (tr4 P) [(3, q135 P), (12, q136 P), (218, boot_o_7 P), (219, q18 P), (220, q137 P), (221, boot_o_7 P), (222, q138 P), (223, q139 P), (224, q140 P), (225, boot_o_7 P), (226, boot_o_8 P), (227, q141 P), (228, boot_o_7 P), (229, q142 P), (230, q143 P), (231, q144 P), (232, boot_o_7 P), (233, boot_o_8 P), (234, q145 P), (235, boot_o_7 P), (236, q146 P), (237, q147 P), (238, q148 P), (239, boot_o_7 P), (240, boot_o_8 P), (241, q149 P), (242, boot_o_7 P), (243, q150 P), (244, q151 P), (245, q152 P), (246, boot_o_7 P), (247, boot_o_8 P), (248, q153 P), (249, boot_o_7 P), (250, q154 P), (251, q155 P), (252, q156 P), (253, boot_o_7 P), (254, boot_o_8 P), (255, q157 P), (256, boot_o_7 P), (257, q158 P), (258, q159 P), (259, q160 P), (260, boot_o_7 P), (261, boot_o_8 P), (262, q161 P), (263, boot_o_7 P), (264, q162 P), (265, q163 P), (266, q164 P), (267, boot_o_7 P), (268, boot_o_8 P), (269, q165 P), (270, boot_o_7 P), (271, q166 P), (272, q167 P), (273, q168 P), (274, boot_o_7 P), (275, boot_o_8 P), (276, q169 P), (277, boot_o_7 P), (278, q170 P), (279, q171 P), (280, q172 P), (281, boot_o_7 P), (282, boot_o_8 P), (283, q173 P), (284, boot_o_7 P), (285, q174 P), (286, q175 P), (287, q176 P), (288, boot_o_7 P), (289, boot_o_8 P), (290, q177 P), (291, boot_o_7 P), (292, q178 P), (293, q179 P), (294, q180 P), (295, boot_o_7 P), (296, boot_o_8 P), (297, q181 P), (298, boot_o_7 P), (299, q182 P), (300, q183 P), (301, q184 P), (302, q185 P), (303, q186 P), (304, q187 P), (305, q188 P), (306, q189 P), (307, q190 P), (308, q191 P)]
noncomputable def q192 (P : Params) : Obj := { cls := .type "dict", data := Data.dict #[en P "__name__" 165 (vs "emacs.markers" 615), en P "__doc__" 166 (.none), en P "__package__" 167 (.none), en P "__loader__" 168 (Value.builtin "__main__.__loader__#opaque"), en P "__spec__" 169 (.none), en P "__annotations__" 170 (.ref 6), en P "__builtins__" 171 (.ref 4), en P "__file__" 173 (vs "/claim/cut.py" 172), en P "__cached__" 174 (.none), en P "_wall" 193 (.ref 21), en P "downcase" 202 (.ref 28), en P "fold" 209 (.ref 35), en P "LispSignal" 242 (.ref 52), en P "need_writable" 251 (.ref 62), en P "reached" 262 (.ref 69), en P "tell_ahead" 272 (.ref 76), en P "tell_behind" 283 (.ref 83), en P "text_out" 293 (.ref 90), en P "text_in" 302 (.ref 97), en P "hung_out" 311 (.ref 104), en P "hung_in" 321 (.ref 111), en P "put_in" 332 (.ref 118), en P "insert" 341 (.ref 126), en P "delete" 353 (.ref 133), en P "NEWLINE" 357 (.int 10 356), en P "line_start" 366 (.ref 140), en P "line_end" 375 (.ref 147), en P "Literal" 430 (.ref 178), en P "how_many" 445 (.ref 189), en P "row_matches" 456 (.ref 196), en P "rows_by" 474 (.ref 203), en P "keep_lines" 484 (.ref 210), en P "flush_lines" 494 (.ref 217), en P "GapText" 614 (.ref 304)] 34 }
noncomputable def tr6 (P : Params) : BT := putT (tr5 P) [(3, q192 P)]
noncomputable def q193 (P : Params) : Obj := { cls := .type "dict", data := Data.dict #[en P "__name__" 165 (vs "emacs.markers" 615), en P "__doc__" 166 (.none), en P "__package__" 167 (.none), en P "__loader__" 168 (Value.builtin "__main__.__loader__#opaque"), en P "__spec__" 169 (.none), en P "__annotations__" 170 (.ref 6), en P "__builtins__" 171 (.ref 4), en P "__file__" 173 (vs "/claim/cut.py" 172), en P "__cached__" 174 (.none), en P "_wall" 193 (.ref 21), en P "downcase" 202 (.ref 28), en P "fold" 209 (.ref 35), en P "LispSignal" 242 (.ref 52), en P "need_writable" 251 (.ref 62), en P "reached" 262 (.ref 69), en P "tell_ahead" 272 (.ref 76), en P "tell_behind" 283 (.ref 83), en P "text_out" 293 (.ref 90), en P "text_in" 302 (.ref 97), en P "hung_out" 311 (.ref 104), en P "hung_in" 321 (.ref 111), en P "put_in" 332 (.ref 118), en P "insert" 341 (.ref 126), en P "delete" 353 (.ref 133), en P "NEWLINE" 357 (.int 10 356), en P "line_start" 366 (.ref 140), en P "line_end" 375 (.ref 147), en P "Literal" 430 (.ref 178), en P "how_many" 445 (.ref 189), en P "row_matches" 456 (.ref 196), en P "rows_by" 474 (.ref 203), en P "keep_lines" 484 (.ref 210), en P "flush_lines" 494 (.ref 217), en P "GapText" 614 (.ref 304), en P "Markers" 712 (.ref 374)] 35 }
noncomputable def q194 (P : Params) : Obj := { cls := .none, data := Data.fields #[.int 1 0, .int 0 0, .ref 20, .int 5 0, .int 0 0, .ref 27, .int 9 0, .int 0 0, .ref 34, .int 12 0, .int 0 0, .ref 41, .int 18 0, .int 0 0, .ref 61, .int 21 0, .int 0 0, .ref 68, .int 26 0, .int 0 0, .ref 75, .int 29 0, .int 0 0, .ref 82, .int 33 0, .int 0 0, .ref 89, .int 41 0, .int 0 0, .ref 96, .int 48 0, .int 0 0, .ref 103, .int 53 0, .int 0 0, .ref 110, .int 58 0, .int 0 0, .ref 117, .int 70 0, .int 0 0, .ref 125, .int 72 0, .int 0 0, .ref 132, .int 85 0, .int 0 0, .ref 139, .int 90 0, .int 0 0, .ref 146, .int 96 0, .int 0 0, .ref 153, .int 114 0, .int 0 0, .ref 188, .int 123 0, .int 0 0, .ref 195, .int 126 0, .int 0 0, .ref 202, .int 142 0, .int 0 0, .ref 209, .int 144 0, .int 0 0, .ref 216, .int 147 0, .int 0 0, .ref 223, .int 213 0, .int 0 0, .ref 314] }
noncomputable def q195 (P : Params) : Obj := { cls := .type "dict", data := Data.dict #[en P "__module__" 624 (vs "emacs.markers" 615), en P "__qualname__" 626 (vs "Markers" 625), en P "__firstlineno__" 628 (.int 213 627), en P "__init__" 635 (.ref 322), en P "numbers" 642 (.ref 329), en P "put" 651 (.ref 336), en P "drop" 659 (.ref 343), en P "within" 670 (.ref 350), en P "inserted" 682 (.ref 357), en P "deleted" 693 (.ref 364), en P "replaced" 703 (.ref 371), en P "__static_attributes__" 705 (.ref 372)] 12 }
noncomputable def q196 (P : Params) : Obj := { cls := .none, data := Data.fields #[.int 215 0, .int 4 0, .ref 321, .int 218 0, .int 4 0, .ref 328, .int 221 0, .int 4 0, .ref 335, .int 224 0, .int 4 0, .ref 342, .int 227 0, .int 4 0, .ref 349, .int 234 0, .int 4 0, .ref 356, .int 240 0, .int 4 0, .ref 363, .int 248 0, .int 4 0, .ref 370] }
noncomputable def q197 (P : Params) : Obj := { cls := .type "code", data := Data.fields #[vs "Markers" 619, vs "Markers" 620, vs "/claim/cut.py" 621, .int 213 0, .int 0 0, .int 0 0, .int 0 0, .int 0 0, .ref 312, .bool false, .int 181 0, .ref 313, .none, .none, .none, .none, .int 622 0, .int 213 0, vs "/claim/cut.py" 623] }
noncomputable def q198 (P : Params) : Obj := { cls := .type "frame", slots := #[some (.ref 314), some (.ref 3), some (.ref 311), none, some (vs "emacs.markers" 615), none, some (.ref 0)] }
noncomputable def q199 (P : Params) : Obj := { cls := .type "tuple", data := Data.seq #[vs "self" 632] }
noncomputable def q200 (P : Params) : Obj := { cls := .none, data := Data.func { name := Str.ofString "__init__", qualname := Str.ofString "Markers.__init__", params := (dP (sub 32 0)), body := FuncBody.stmts (dB (sub 32 0)), scope := (dS (sub 32 0)), globals := 0, closure := [], defaults := .none, kwdefaults := .none } }
noncomputable def q201 (P : Params) : Obj := { cls := .type "code", data := Data.fields #[vs "__init__" 629, vs "Markers.__init__" 630, vs "/claim/cut.py" 631, .int 215 0, .int 1 0, .int 0 0, .int 0 0, .int 3 0, .ref 316, .bool true, .int 181 0, .ref 317, .none, .ref 318, .ref 319, .ref 320, .int 633 0, .int 215 0, vs "/claim/cut.py" 634] }
noncomputable def q202 (P : Params) : Obj := { cls := .type "function", data := Data.func { name := Str.ofString "__init__", qualname := Str.ofString "Markers.__init__", params := (dP (sub 32 0)), body := FuncBody.stmts (dB (sub 32 0)), scope := (dS (sub 32 0)), globals := 3, closure := [], defaults := .none, kwdefaults := .none, pyModule := vs "emacs.markers" 615, code := .ref 321 } }
noncomputable def q203 (P : Params) : Obj := { cls := .type "tuple", data := Data.seq #[vs "self" 639] }
noncomputable def q204 (P : Params) : Obj := { cls := .none, data := Data.func { name := Str.ofString "numbers", qualname := Str.ofString "Markers.numbers", params := (dP (sub 32 1)), body := FuncBody.stmts (dB (sub 32 1)), scope := (dS (sub 32 1)), globals := 0, closure := [], defaults := .none, kwdefaults := .none } }
noncomputable def q205 (P : Params) : Obj := { cls := .type "code", data := Data.fields #[vs "numbers" 636, vs "Markers.numbers" 637, vs "/claim/cut.py" 638, .int 218 0, .int 1 0, .int 0 0, .int 0 0, .int 3 0, .ref 323, .bool true, .int 181 0, .ref 324, .none, .ref 325, .ref 326, .ref 327, .int 640 0, .int 218 0, vs "/claim/cut.py" 641] }
noncomputable def q206 (P : Params) : Obj := { cls := .type "function", data := Data.func { name := Str.ofString "numbers", qualname := Str.ofString "Markers.numbers", params := (dP (sub 32 1)), body := FuncBody.stmts (dB (sub 32 1)), scope := (dS (sub 32 1)), globals := 3, closure := [], defaults := .none, kwdefaults := .none, pyModule := vs "emacs.markers" 615, code := .ref 328 } }
noncomputable def q207 (P : Params) : Obj := { cls := .type "tuple", data := Data.seq #[vs "self" 646, vs "marker" 647, vs "position" 648] }
noncomputable def q208 (P : Params) : Obj := { cls := .none, data := Data.func { name := Str.ofString "put", qualname := Str.ofString "Markers.put", params := (dP (sub 32 2)), body := FuncBody.stmts (dB (sub 32 2)), scope := (dS (sub 32 2)), globals := 0, closure := [], defaults := .none, kwdefaults := .none } }
noncomputable def q209 (P : Params) : Obj := { cls := .type "code", data := Data.fields #[vs "put" 643, vs "Markers.put" 644, vs "/claim/cut.py" 645, .int 221 0, .int 3 0, .int 0 0, .int 0 0, .int 3 0, .ref 330, .bool true, .int 181 0, .ref 331, .none, .ref 332, .ref 333, .ref 334, .int 649 0, .int 221 0, vs "/claim/cut.py" 650] }
noncomputable def q210 (P : Params) : Obj := { cls := .type "function", data := Data.func { name := Str.ofString "put", qualname := Str.ofString "Markers.put", params := (dP (sub 32 2)), body := FuncBody.stmts (dB (sub 32 2)), scope := (dS (sub 32 2)), globals := 3, closure := [], defaults := .none, kwdefaults := .none, pyModule := vs "emacs.markers" 615, code := .ref 335 } }
noncomputable def q211 (P : Params) : Obj := { cls := .type "tuple", data := Data.seq #[vs "self" 655, vs "marker" 656] }
noncomputable def q212 (P : Params) : Obj := { cls := .none, data := Data.func { name := Str.ofString "drop", qualname := Str.ofString "Markers.drop", params := (dP (sub 32 3)), body := FuncBody.stmts (dB (sub 32 3)), scope := (dS (sub 32 3)), globals := 0, closure := [], defaults := .none, kwdefaults := .none } }
noncomputable def q213 (P : Params) : Obj := { cls := .type "code", data := Data.fields #[vs "drop" 652, vs "Markers.drop" 653, vs "/claim/cut.py" 654, .int 224 0, .int 2 0, .int 0 0, .int 0 0, .int 3 0, .ref 337, .bool true, .int 181 0, .ref 338, .none, .ref 339, .ref 340, .ref 341, .int 657 0, .int 224 0, vs "/claim/cut.py" 658] }
noncomputable def q214 (P : Params) : Obj := { cls := .type "function", data := Data.func { name := Str.ofString "drop", qualname := Str.ofString "Markers.drop", params := (dP (sub 32 3)), body := FuncBody.stmts (dB (sub 32 3)), scope := (dS (sub 32 3)), globals := 3, closure := [], defaults := .none, kwdefaults := .none, pyModule := vs "emacs.markers" 615, code := .ref 342 } }
noncomputable def q215 (P : Params) : Obj := { cls := .type "tuple", data := Data.seq #[vs "self" 663, vs "start" 664, vs "end" 665, vs "found" 666, vs "number" 667] }
noncomputable def q216 (P : Params) : Obj := { cls := .none, data := Data.func { name := Str.ofString "within", qualname := Str.ofString "Markers.within", params := (dP (sub 32 4)), body := FuncBody.stmts (dB (sub 32 4)), scope := (dS (sub 32 4)), globals := 0, closure := [], defaults := .none, kwdefaults := .none } }
noncomputable def q217 (P : Params) : Obj := { cls := .type "code", data := Data.fields #[vs "within" 660, vs "Markers.within" 661, vs "/claim/cut.py" 662, .int 227 0, .int 3 0, .int 0 0, .int 0 0, .int 3 0, .ref 344, .bool true, .int 181 0, .ref 345, .none, .ref 346, .ref 347, .ref 348, .int 668 0, .int 227 0, vs "/claim/cut.py" 669] }
noncomputable def q218 (P : Params) : Obj := { cls := .type "function", data := Data.func { name := Str.ofString "within", qualname := Str.ofString "Markers.within", params := (dP (sub 32 4)), body := FuncBody.stmts (dB (sub 32 4)), scope := (dS (sub 32 4)), globals := 3, closure := [], defaults := .none, kwdefaults := .none, pyModule := vs "emacs.markers" 615, code := .ref 349 } }
noncomputable def q219 (P : Params) : Obj := { cls := .type "tuple", data := Data.seq #[vs "self" 674, vs "start" 675, vs "end" 676, vs "is_before" 677, vs "number" 678, vs "marker" 679] }
noncomputable def q220 (P : Params) : Obj := { cls := .none, data := Data.func { name := Str.ofString "inserted", qualname := Str.ofString "Markers.inserted", params := (dP (sub 32 5)), body := FuncBody.stmts (dB (sub 32 5)), scope := (dS (sub 32 5)), globals := 0, closure := [], defaults := .none, kwdefaults := .none } }
noncomputable def q221 (P : Params) : Obj := { cls := .type "code", data := Data.fields #[vs "inserted" 671, vs "Markers.inserted" 672, vs "/claim/cut.py" 673, .int 234 0, .int 4 0, .int 0 0, .int 0 0, .int 3 0, .ref 351, .bool true, .int 181 0, .ref 352, .none, .ref 353, .ref 354, .ref 355, .int 680 0, .int 234 0, vs "/claim/cut.py" 681] }
noncomputable def q222 (P : Params) : Obj := { cls := .type "function", data := Data.func { name := Str.ofString "inserted", qualname := Str.ofString "Markers.inserted", params := (dP (sub 32 5)), body := FuncBody.stmts (dB (sub 32 5)), scope := (dS (sub 32 5)), globals := 3, closure := [], defaults := .none, kwdefaults := .none, pyModule := vs "emacs.markers" 615, code := .ref 356 } }
noncomputable def q223 (P : Params) : Obj := { cls := .type "tuple", data := Data.seq #[vs "self" 686, vs "start" 687, vs "end" 688, vs "number" 689, vs "marker" 690] }
noncomputable def q224 (P : Params) : Obj := { cls := .none, data := Data.func { name := Str.ofString "deleted", qualname := Str.ofString "Markers.deleted", params := (dP (sub 32 6)), body := FuncBody.stmts (dB (sub 32 6)), scope := (dS (sub 32 6)), globals := 0, closure := [], defaults := .none, kwdefaults := .none } }
noncomputable def q225 (P : Params) : Obj := { cls := .type "code", data := Data.fields #[vs "deleted" 683, vs "Markers.deleted" 684, vs "/claim/cut.py" 685, .int 240 0, .int 3 0, .int 0 0, .int 0 0, .int 3 0, .ref 358, .bool true, .int 181 0, .ref 359, .none, .ref 360, .ref 361, .ref 362, .int 691 0, .int 240 0, vs "/claim/cut.py" 692] }
noncomputable def q226 (P : Params) : Obj := { cls := .type "function", data := Data.func { name := Str.ofString "deleted", qualname := Str.ofString "Markers.deleted", params := (dP (sub 32 6)), body := FuncBody.stmts (dB (sub 32 6)), scope := (dS (sub 32 6)), globals := 3, closure := [], defaults := .none, kwdefaults := .none, pyModule := vs "emacs.markers" 615, code := .ref 363 } }
noncomputable def q227 (P : Params) : Obj := { cls := .type "tuple", data := Data.seq #[vs "self" 697, vs "start" 698, vs "end" 699, vs "many" 700] }
noncomputable def q228 (P : Params) : Obj := { cls := .none, data := Data.func { name := Str.ofString "replaced", qualname := Str.ofString "Markers.replaced", params := (dP (sub 32 7)), body := FuncBody.stmts (dB (sub 32 7)), scope := (dS (sub 32 7)), globals := 0, closure := [], defaults := .none, kwdefaults := .none } }
noncomputable def q229 (P : Params) : Obj := { cls := .type "code", data := Data.fields #[vs "replaced" 694, vs "Markers.replaced" 695, vs "/claim/cut.py" 696, .int 248 0, .int 4 0, .int 0 0, .int 0 0, .int 3 0, .ref 365, .bool true, .int 181 0, .ref 366, .none, .ref 367, .ref 368, .ref 369, .int 701 0, .int 248 0, vs "/claim/cut.py" 702] }
noncomputable def q230 (P : Params) : Obj := { cls := .type "function", data := Data.func { name := Str.ofString "replaced", qualname := Str.ofString "Markers.replaced", params := (dP (sub 32 7)), body := FuncBody.stmts (dB (sub 32 7)), scope := (dS (sub 32 7)), globals := 3, closure := [], defaults := .none, kwdefaults := .none, pyModule := vs "emacs.markers" 615, code := .ref 370 } }
noncomputable def q231 (P : Params) : Obj := { cls := .type "tuple", data := Data.seq #[vs "rows" 704] }
noncomputable def q232 (P : Params) : Obj := { cls := .type "dict", data := Data.dict #[en P "__module__" 624 (vs "emacs.markers" 615), en P "__firstlineno__" 628 (.int 213 627), en P "__init__" 635 (.ref 322), en P "numbers" 642 (.ref 329), en P "put" 651 (.ref 336), en P "drop" 659 (.ref 343), en P "within" 670 (.ref 350), en P "inserted" 682 (.ref 357), en P "deleted" 693 (.ref 364), en P "replaced" 703 (.ref 371), en P "__static_attributes__" 705 (.ref 372), en P "__dict__" 707 (.ref 375), en P "__weakref__" 709 (.ref 376), en P "__doc__" 710 (.none)] 4 }
noncomputable def q233 (P : Params) : Obj := { cls := .type "type", data := Data.cls { name := Str.ofString "Markers", bases := [.type "object"], mro := [.ref 374, .type "object"], ns := 373, qualname := Str.ofString "Markers" }, slots := #[none, none, some (vs "Markers" 617), some (vs "Markers" 625), some (Value.builtin "object.__new__"), some (.bool true)] }
noncomputable def q234 (P : Params) : Obj := { cls := .type "getset_descriptor", data := Data.fields #[vs "__dict__" 706, .ref 374, Value.builtin "function.__dict__", Value.builtin "function.__dict__#set"] }
noncomputable def q235 (P : Params) : Obj := { cls := .type "getset_descriptor", data := Data.fields #[vs "__weakref__" 708, .ref 374, Value.builtin "ExceptionGroup.__weakref__", .none] }
noncomputable def q236 (P : Params) : Obj := { cls := .type "super", data := Data.fields #[.ref 374, .ref 374, .ref 374] }
noncomputable def q237 (P : Params) : Obj := { cls := .type "builtin_function_or_method", data := Data.fields #[Value.builtin "object.__init_subclass__", .ref 374] }
noncomputable def tr7 (P : Params) : BT := putT (tr6 P) [(3, q193 P), (12, q194 P), (309, boot_o_7 P), (310, q18 P), (311, q195 P), (312, boot_o_7 P), (313, q196 P), (314, q197 P), (315, q198 P), (316, boot_o_7 P), (317, boot_o_8 P), (318, q199 P), (319, boot_o_7 P), (320, q200 P), (321, q201 P), (322, q202 P), (323, boot_o_7 P), (324, boot_o_8 P), (325, q203 P), (326, boot_o_7 P), (327, q204 P), (328, q205 P), (329, q206 P), (330, boot_o_7 P), (331, boot_o_8 P), (332, q207 P), (333, boot_o_7 P), (334, q208 P), (335, q209 P), (336, q210 P), (337, boot_o_7 P), (338, boot_o_8 P), (339, q211 P), (340, boot_o_7 P), (341, q212 P), (342, q213 P), (343, q214 P), (344, boot_o_7 P), (345, boot_o_8 P), (346, q215 P), (347, boot_o_7 P), (348, q216 P), (349, q217 P), (350, q218 P), (351, boot_o_7 P), (352, boot_o_8 P), (353, q219 P), (354, boot_o_7 P), (355, q220 P), (356, q221 P), (357, q222 P), (358, boot_o_7 P), (359, boot_o_8 P), (360, q223 P), (361, boot_o_7 P), (362, q224 P), (363, q225 P), (364, q226 P), (365, boot_o_7 P), (366, boot_o_8 P), (367, q227 P), (368, boot_o_7 P), (369, q228 P), (370, q229 P), (371, q230 P), (372, q231 P), (373, q232 P), (374, q233 P), (375, q234 P), (376, q235 P), (377, q236 P), (378, q237 P)]
noncomputable def q238 (P : Params) : Obj := { cls := .type "dict", data := Data.dict #[en P "__name__" 165 (vs "emacs.buffer" 757), en P "__doc__" 166 (.none), en P "__package__" 167 (.none), en P "__loader__" 168 (Value.builtin "__main__.__loader__#opaque"), en P "__spec__" 169 (.none), en P "__annotations__" 170 (.ref 6), en P "__builtins__" 171 (.ref 4), en P "__file__" 173 (vs "/claim/cut.py" 172), en P "__cached__" 174 (.none), en P "_wall" 193 (.ref 21), en P "downcase" 202 (.ref 28), en P "fold" 209 (.ref 35), en P "LispSignal" 242 (.ref 52), en P "need_writable" 251 (.ref 62), en P "reached" 262 (.ref 69), en P "tell_ahead" 272 (.ref 76), en P "tell_behind" 283 (.ref 83), en P "text_out" 293 (.ref 90), en P "text_in" 302 (.ref 97), en P "hung_out" 311 (.ref 104), en P "hung_in" 321 (.ref 111), en P "put_in" 332 (.ref 118), en P "insert" 341 (.ref 126), en P "delete" 353 (.ref 133), en P "NEWLINE" 357 (.int 10 356), en P "line_start" 366 (.ref 140), en P "line_end" 375 (.ref 147), en P "Literal" 430 (.ref 178), en P "how_many" 445 (.ref 189), en P "row_matches" 456 (.ref 196), en P "rows_by" 474 (.ref 203), en P "keep_lines" 484 (.ref 210), en P "flush_lines" 494 (.ref 217), en P "GapText" 614 (.ref 304), en P "Markers" 712 (.ref 374), en P "Opaque" 756 (.ref 409)] 36 }
noncomputable def q239 (P : Params) : Obj := { cls := .none, data := Data.fields #[.int 1 0, .int 0 0, .ref 20, .int 5 0, .int 0 0, .ref 27, .int 9 0, .int 0 0, .ref 34, .int 12 0, .int 0 0, .ref 41, .int 18 0, .int 0 0, .ref 61, .int 21 0, .int 0 0, .ref 68, .int 26 0, .int 0 0, .ref 75, .int 29 0, .int 0 0, .ref 82, .int 33 0, .int 0 0, .ref 89, .int 41 0, .int 0 0, .ref 96, .int 48 0, .int 0 0, .ref 103, .int 53 0, .int 0 0, .ref 110, .int 58 0, .int 0 0, .ref 117, .int 70 0, .int 0 0, .ref 125, .int 72 0, .int 0 0, .ref 132, .int 85 0, .int 0 0, .ref 139, .int 90 0, .int 0 0, .ref 146, .int 96 0, .int 0 0, .ref 153, .int 114 0, .int 0 0, .ref 188, .int 123 0, .int 0 0, .ref 195, .int 126 0, .int 0 0, .ref 202, .int 142 0, .int 0 0, .ref 209, .int 144 0, .int 0 0, .ref 216, .int 147 0, .int 0 0, .ref 223, .int 213 0, .int 0 0, .ref 314, .int 251 0, .int 0 0, .ref 384] }
noncomputable def q240 (P : Params) : Obj := { cls := .type "dict", data := Data.dict #[en P "__module__" 722 (vs "emacs.objects" 713), en P "__qualname__" 724 (vs "Opaque" 723), en P "__firstlineno__" 726 (.int 251 725), en P "shown" 733 (.ref 392), en P "kind" 740 (.ref 399), en P "same_as" 748 (.ref 406), en P "__static_attributes__" 749 (.ref 407)] 7 }
noncomputable def q241 (P : Params) : Obj := { cls := .none, data := Data.fields #[.int 253 0, .int 4 0, .ref 391, .int 256 0, .int 4 0, .ref 398, .int 259 0, .int 4 0, .ref 405] }
noncomputable def q242 (P : Params) : Obj := { cls := .type "code", data := Data.fields #[vs "Opaque" 717, vs "Opaque" 718, vs "/claim/cut.py" 719, .int 251 0, .int 0 0, .int 0 0, .int 0 0, .int 0 0, .ref 382, .bool false, .int 181 0, .ref 383, .none, .none, .none, .none, .int 720 0, .int 251 0, vs "/claim/cut.py" 721] }
noncomputable def q243 (P : Params) : Obj := { cls := .type "frame", slots := #[some (.ref 384), some (.ref 3), some (.ref 381), none, some (vs "emacs.objects" 713), none, some (.ref 0)] }
noncomputable def q244 (P : Params) : Obj := { cls := .type "tuple", data := Data.seq #[vs "self" 730] }
noncomputable def q245 (P : Params) : Obj := { cls := .none, data := Data.func { name := Str.ofString "shown", qualname := Str.ofString "Opaque.shown", params := (dP (sub 34 0)), body := FuncBody.stmts (dB (sub 34 0)), scope := (dS (sub 30 9)), globals := 0, closure := [], defaults := .none, kwdefaults := .none } }
noncomputable def q246 (P : Params) : Obj := { cls := .type "code", data := Data.fields #[vs "shown" 727, vs "Opaque.shown" 728, vs "/claim/cut.py" 729, .int 253 0, .int 1 0, .int 0 0, .int 0 0, .int 3 0, .ref 386, .bool true, .int 181 0, .ref 387, .none, .ref 388, .ref 389, .ref 390, .int 731 0, .int 253 0, vs "/claim/cut.py" 732] }
noncomputable def q247 (P : Params) : Obj := { cls := .type "function", data := Data.func { name := Str.ofString "shown", qualname := Str.ofString "Opaque.shown", params := (dP (sub 34 0)), body := FuncBody.stmts (dB (sub 34 0)), scope := (dS (sub 30 9)), globals := 3, closure := [], defaults := .none, kwdefaults := .none, pyModule := vs "emacs.objects" 713, code := .ref 391 } }
noncomputable def q248 (P : Params) : Obj := { cls := .type "tuple", data := Data.seq #[vs "self" 737] }
noncomputable def q249 (P : Params) : Obj := { cls := .none, data := Data.func { name := Str.ofString "kind", qualname := Str.ofString "Opaque.kind", params := (dP (sub 34 1)), body := FuncBody.stmts (dB (sub 34 1)), scope := (dS (sub 30 9)), globals := 0, closure := [], defaults := .none, kwdefaults := .none } }
noncomputable def q250 (P : Params) : Obj := { cls := .type "code", data := Data.fields #[vs "kind" 734, vs "Opaque.kind" 735, vs "/claim/cut.py" 736, .int 256 0, .int 1 0, .int 0 0, .int 0 0, .int 3 0, .ref 393, .bool true, .int 181 0, .ref 394, .none, .ref 395, .ref 396, .ref 397, .int 738 0, .int 256 0, vs "/claim/cut.py" 739] }
noncomputable def q251 (P : Params) : Obj := { cls := .type "function", data := Data.func { name := Str.ofString "kind", qualname := Str.ofString "Opaque.kind", params := (dP (sub 34 1)), body := FuncBody.stmts (dB (sub 34 1)), scope := (dS (sub 30 9)), globals := 3, closure := [], defaults := .none, kwdefaults := .none, pyModule := vs "emacs.objects" 713, code := .ref 398 } }
noncomputable def q252 (P : Params) : Obj := { cls := .type "tuple", data := Data.seq #[vs "self" 744, vs "other" 745] }
noncomputable def q253 (P : Params) : Obj := { cls := .none, data := Data.func { name := Str.ofString "same_as", qualname := Str.ofString "Opaque.same_as", params := (dP (sub 34 2)), body := FuncBody.stmts (dB (sub 34 2)), scope := (dS (sub 34 2)), globals := 0, closure := [], defaults := .none, kwdefaults := .none } }
noncomputable def q254 (P : Params) : Obj := { cls := .type "code", data := Data.fields #[vs "same_as" 741, vs "Opaque.same_as" 742, vs "/claim/cut.py" 743, .int 259 0, .int 2 0, .int 0 0, .int 0 0, .int 3 0, .ref 400, .bool true, .int 181 0, .ref 401, .none, .ref 402, .ref 403, .ref 404, .int 746 0, .int 259 0, vs "/claim/cut.py" 747] }
noncomputable def q255 (P : Params) : Obj := { cls := .type "function", data := Data.func { name := Str.ofString "same_as", qualname := Str.ofString "Opaque.same_as", params := (dP (sub 34 2)), body := FuncBody.stmts (dB (sub 34 2)), scope := (dS (sub 34 2)), globals := 3, closure := [], defaults := .none, kwdefaults := .none, pyModule := vs "emacs.objects" 713, code := .ref 405 } }
noncomputable def q256 (P : Params) : Obj := { cls := .type "dict", data := Data.dict #[en P "__module__" 722 (vs "emacs.objects" 713), en P "__firstlineno__" 726 (.int 251 725), en P "shown" 733 (.ref 392), en P "kind" 740 (.ref 399), en P "same_as" 748 (.ref 406), en P "__static_attributes__" 749 (.ref 407), en P "__dict__" 751 (.ref 410), en P "__weakref__" 753 (.ref 411), en P "__doc__" 754 (.none)] 4 }
noncomputable def q257 (P : Params) : Obj := { cls := .type "type", data := Data.cls { name := Str.ofString "Opaque", bases := [.type "object"], mro := [.ref 409, .type "object"], ns := 408, qualname := Str.ofString "Opaque" }, slots := #[none, none, some (vs "Opaque" 715), some (vs "Opaque" 723), some (Value.builtin "object.__new__"), some (.bool true)] }
noncomputable def q258 (P : Params) : Obj := { cls := .type "getset_descriptor", data := Data.fields #[vs "__dict__" 750, .ref 409, Value.builtin "function.__dict__", Value.builtin "function.__dict__#set"] }
noncomputable def q259 (P : Params) : Obj := { cls := .type "getset_descriptor", data := Data.fields #[vs "__weakref__" 752, .ref 409, Value.builtin "ExceptionGroup.__weakref__", .none] }
noncomputable def q260 (P : Params) : Obj := { cls := .type "super", data := Data.fields #[.ref 409, .ref 409, .ref 409] }
noncomputable def q261 (P : Params) : Obj := { cls := .type "builtin_function_or_method", data := Data.fields #[Value.builtin "object.__init_subclass__", .ref 409] }
noncomputable def tr8 (P : Params) : BT := putT (tr7 P) [(3, q238 P), (12, q239 P), (379, boot_o_7 P), (380, q18 P), (381, q240 P), (382, boot_o_7 P), (383, q241 P), (384, q242 P), (385, q243 P), (386, boot_o_7 P), (387, boot_o_8 P), (388, q244 P), (389, boot_o_7 P), (390, q245 P), (391, q246 P), (392, q247 P), (393, boot_o_7 P), (394, boot_o_8 P), (395, q248 P), (396, boot_o_7 P), (397, q249 P), (398, q250 P), (399, q251 P), (400, boot_o_7 P), (401, boot_o_8 P), (402, q252 P), (403, boot_o_7 P), (404, q253 P), (405, q254 P), (406, q255 P), (407, boot_o_7 P), (408, q256 P), (409, q257 P), (410, q258 P), (411, q259 P), (412, q260 P), (413, q261 P)]
noncomputable def q262 (P : Params) : Obj := { cls := .type "dict", data := Data.dict #[en P "__name__" 165 (vs "emacs.buffer" 757), en P "__doc__" 166 (.none), en P "__package__" 167 (.none), en P "__loader__" 168 (Value.builtin "__main__.__loader__#opaque"), en P "__spec__" 169 (.none), en P "__annotations__" 170 (.ref 6), en P "__builtins__" 171 (.ref 4), en P "__file__" 173 (vs "/claim/cut.py" 172), en P "__cached__" 174 (.none), en P "_wall" 193 (.ref 21), en P "downcase" 202 (.ref 28), en P "fold" 209 (.ref 35), en P "LispSignal" 242 (.ref 52), en P "need_writable" 251 (.ref 62), en P "reached" 262 (.ref 69), en P "tell_ahead" 272 (.ref 76), en P "tell_behind" 283 (.ref 83), en P "text_out" 293 (.ref 90), en P "text_in" 302 (.ref 97), en P "hung_out" 311 (.ref 104), en P "hung_in" 321 (.ref 111), en P "put_in" 332 (.ref 118), en P "insert" 341 (.ref 126), en P "delete" 353 (.ref 133), en P "NEWLINE" 357 (.int 10 356), en P "line_start" 366 (.ref 140), en P "line_end" 375 (.ref 147), en P "Literal" 430 (.ref 178), en P "how_many" 445 (.ref 189), en P "row_matches" 456 (.ref 196), en P "rows_by" 474 (.ref 203), en P "keep_lines" 484 (.ref 210), en P "flush_lines" 494 (.ref 217), en P "GapText" 614 (.ref 304), en P "Markers" 712 (.ref 374), en P "Opaque" 756 (.ref 409), en P "Buffer" 895 (.ref 515)] 37 }
noncomputable def q263 (P : Params) : Obj := { cls := .none, data := Data.fields #[.int 1 0, .int 0 0, .ref 20, .int 5 0, .int 0 0, .ref 27, .int 9 0, .int 0 0, .ref 34, .int 12 0, .int 0 0, .ref 41, .int 18 0, .int 0 0, .ref 61, .int 21 0, .int 0 0, .ref 68, .int 26 0, .int 0 0, .ref 75, .int 29 0, .int 0 0, .ref 82, .int 33 0, .int 0 0, .ref 89, .int 41 0, .int 0 0, .ref 96, .int 48 0, .int 0 0, .ref 103, .int 53 0, .int 0 0, .ref 110, .int 58 0, .int 0 0, .ref 117, .int 70 0, .int 0 0, .ref 125, .int 72 0, .int 0 0, .ref 132, .int 85 0, .int 0 0, .ref 139, .int 90 0, .int 0 0, .ref 146, .int 96 0, .int 0 0, .ref 153, .int 114 0, .int 0 0, .ref 188, .int 123 0, .int 0 0, .ref 195, .int 126 0, .int 0 0, .ref 202, .int 142 0, .int 0 0, .ref 209, .int 144 0, .int 0 0, .ref 216, .int 147 0, .int 0 0, .ref 223, .int 213 0, .int 0 0, .ref 314, .int 251 0, .int 0 0, .ref 384, .int 262 0, .int 0 0, .ref 419] }
noncomputable def q264 (P : Params) : Obj := { cls := .type "type", data := Data.cls { name := Str.ofString "Opaque", bases := [.type "object"], mro := [.ref 409, .type "object"], ns := 408, qualname := Str.ofString "Opaque", subclasses := [.ref 515] }, slots := #[none, none, some (vs "Opaque" 715), some (vs "Opaque" 723), some (Value.builtin "object.__new__"), some (.bool true)] }
noncomputable def q265 (P : Params) : Obj := { cls := .type "tuple", data := Data.seq #[.ref 409] }
noncomputable def q266 (P : Params) : Obj := { cls := .type "dict", data := Data.dict #[en P "__module__" 766 (vs "emacs.buffer" 757), en P "__qualname__" 768 (vs "Buffer" 767), en P "__firstlineno__" 770 (.int 262 769), en P "__init__" 781 (.ref 428), en P "shown" 788 (.ref 435), en P "kind" 795 (.ref 442), en P "begin" 802 (.ref 449), en P "end" 809 (.ref 456), en P "size" 816 (.ref 463), en P "code_at" 824 (.ref 470), en P "codes" 833 (.ref 477), en P "goto" 841 (.ref 484), en P "tick" 848 (.ref 491), en P "is_modified" 855 (.ref 498), en P "set_modified" 863 (.ref 505), en P "touch" 871 (.ref 512), en P "__static_attributes__" 892 (.ref 513)] 17 }
noncomputable def q267 (P : Params) : Obj := { cls := .none, data := Data.fields #[.int 264 0, .int 4 0, .ref 427, .int 286 0, .int 4 0, .ref 434, .int 289 0, .int 4 0, .ref 441, .int 292 0, .int 4 0, .ref 448, .int 295 0, .int 4 0, .ref 455, .int 298 0, .int 4 0, .ref 462, .int 301 0, .int 4 0, .ref 469, .int 306 0, .int 4 0, .ref 476, .int 309 0, .int 4 0, .ref 483, .int 312 0, .int 4 0, .ref 490, .int 315 0, .int 4 0, .ref 497, .int 318 0, .int 4 0, .ref 504, .int 321 0, .int 4 0, .ref 511] }
noncomputable def q268 (P : Params) : Obj := { cls := .type "code", data := Data.fields #[vs "Buffer" 761, vs "Buffer" 762, vs "/claim/cut.py" 763, .int 262 0, .int 0 0, .int 0 0, .int 0 0, .int 0 0, .ref 417, .bool false, .int 181 0, .ref 418, .none, .none, .none, .none, .int 764 0, .int 262 0, vs "/claim/cut.py" 765] }
noncomputable def q269 (P : Params) : Obj := { cls := .type "frame", slots := #[some (.ref 419), some (.ref 3), some (.ref 416), none, some (vs "emacs.buffer" 757), none, some (.ref 0)] }
noncomputable def q270 (P : Params) : Obj := { cls := .type "tuple", data := Data.seq #[.int 8 771] }
noncomputable def q271 (P : Params) : Obj := { cls := .type "tuple", data := Data.seq #[vs "self" 775, vs "number" 776, vs "name" 777, vs "room" 778] }
noncomputable def q272 (P : Params) : Obj := { cls := .none, data := Data.func { name := Str.ofString "__init__", qualname := Str.ofString "Buffer.__init__", params := (dP (sub 36 0)), body := FuncBody.stmts (dB (sub 36 0)), scope := (dS (sub 36 0)), globals := 0, closure := [], defaults := .none, kwdefaults := .none } }
noncomputable def q273 (P : Params) : Obj := { cls := .type "code", data := Data.fields #[vs "__init__" 772, vs "Buffer.__init__" 773, vs "/claim/cut.py" 774, .int 264 0, .int 4 0, .int 0 0, .int 0 0, .int 3 0, .ref 422, .bool true, .int 181 0, .ref 423, .none, .ref 424, .ref 425, .ref 426, .int 779 0, .int 264 0, vs "/claim/cut.py" 780] }
noncomputable def q274 (P : Params) : Obj := { cls := .type "function", data := Data.func { name := Str.ofString "__init__", qualname := Str.ofString "Buffer.__init__", params := (dP (sub 36 0)), body := FuncBody.stmts (dB (sub 36 0)), scope := (dS (sub 36 0)), globals := 3, closure := [], defaults := .ref 421, kwdefaults := .none, pyModule := vs "emacs.buffer" 757, code := .ref 427 } }
noncomputable def q275 (P : Params) : Obj := { cls := .type "tuple", data := Data.seq #[vs "self" 785] }
noncomputable def q276 (P : Params) : Obj := { cls := .none, data := Data.func { name := Str.ofString "shown", qualname := Str.ofString "Buffer.shown", params := (dP (sub 36 1)), body := FuncBody.stmts (dB (sub 36 1)), scope := (dS (sub 30 9)), globals := 0, closure := [], defaults := .none, kwdefaults := .none } }
noncomputable def q277 (P : Params) : Obj := { cls := .type "code", data := Data.fields #[vs "shown" 782, vs "Buffer.shown" 783, vs "/claim/cut.py" 784, .int 286 0, .int 1 0, .int 0 0, .int 0 0, .int 3 0, .ref 429, .bool true, .int 181 0, .ref 430, .none, .ref 431, .ref 432, .ref 433, .int 786 0, .int 286 0, vs "/claim/cut.py" 787] }
noncomputable def q278 (P : Params) : Obj := { cls := .type "function", data := Data.func { name := Str.ofString "shown", qualname := Str.ofString "Buffer.shown", params := (dP (sub 36 1)), body := FuncBody.stmts (dB (sub 36 1)), scope := (dS (sub 30 9)), globals := 3, closure := [], defaults := .none, kwdefaults := .none, pyModule := vs "emacs.buffer" 757, code := .ref 434 } }
noncomputable def q279 (P : Params) : Obj := { cls := .type "tuple", data := Data.seq #[vs "self" 792] }
noncomputable def q280 (P : Params) : Obj := { cls := .none, data := Data.func { name := Str.ofString "kind", qualname := Str.ofString "Buffer.kind", params := (dP (sub 36 2)), body := FuncBody.stmts (dB (sub 36 2)), scope := (dS (sub 30 9)), globals := 0, closure := [], defaults := .none, kwdefaults := .none } }
noncomputable def q281 (P : Params) : Obj := { cls := .type "code", data := Data.fields #[vs "kind" 789, vs "Buffer.kind" 790, vs "/claim/cut.py" 791, .int 289 0, .int 1 0, .int 0 0, .int 0 0, .int 3 0, .ref 436, .bool true, .int 181 0, .ref 437, .none, .ref 438, .ref 439, .ref 440, .int 793 0, .int 289 0, vs "/claim/cut.py" 794] }
noncomputable def q282 (P : Params) : Obj := { cls := .type "function", data := Data.func { name := Str.ofString "kind", qualname := Str.ofString "Buffer.kind", params := (dP (sub 36 2)), body := FuncBody.stmts (dB (sub 36 2)), scope := (dS (sub 30 9)), globals := 3, closure := [], defaults := .none, kwdefaults := .none, pyModule := vs "emacs.buffer" 757, code := .ref 441 } }
noncomputable def q283 (P : Params) : Obj := { cls := .type "tuple", data := Data.seq #[vs "self" 799] }
noncomputable def q284 (P : Params) : Obj := { cls := .none, data := Data.func { name := Str.ofString "begin", qualname := Str.ofString "Buffer.begin", params := (dP (sub 36 3)), body := FuncBody.stmts (dB (sub 36 3)), scope := (dS (sub 32 0)), globals := 0, closure := [], defaults := .none, kwdefaults := .none } }
noncomputable def q285 (P : Params) : Obj := { cls := .type "code", data := Data.fields #[vs "begin" 796, vs "Buffer.begin" 797, vs "/claim/cut.py" 798, .int 292 0, .int 1 0, .int 0 0, .int 0 0, .int 3 0, .ref 443, .bool true, .int 181 0, .ref 444, .none, .ref 445, .ref 446, .ref 447, .int 800 0, .int 292 0, vs "/claim/cut.py" 801] }
noncomputable def q286 (P : Params) : Obj := { cls := .type "function", data := Data.func { name := Str.ofString "begin", qualname := Str.ofString "Buffer.begin", params := (dP (sub 36 3)), body := FuncBody.stmts (dB (sub 36 3)), scope := (dS (sub 32 0)), globals := 3, closure := [], defaults := .none, kwdefaults := .none, pyModule := vs "emacs.buffer" 757, code := .ref 448 } }
noncomputable def q287 (P : Params) : Obj := { cls := .type "tuple", data := Data.seq #[vs "self" 806] }
noncomputable def q288 (P : Params) : Obj := { cls := .none, data := Data.func { name := Str.ofString "end", qualname := Str.ofString "Buffer.end", params := (dP (sub 36 4)), body := FuncBody.stmts (dB (sub 36 4)), scope := (dS (sub 32 0)), globals := 0, closure := [], defaults := .none, kwdefaults := .none } }
noncomputable def q289 (P : Params) : Obj := { cls := .type "code", data := Data.fields #[vs "end" 803, vs "Buffer.end" 804, vs "/claim/cut.py" 805, .int 295 0, .int 1 0, .int 0 0, .int 0 0, .int 3 0, .ref 450, .bool true, .int 181 0, .ref 451, .none, .ref 452, .ref 453, .ref 454, .int 807 0, .int 295 0, vs "/claim/cut.py" 808] }
noncomputable def q290 (P : Params) : Obj := { cls := .type "function", data := Data.func { name := Str.ofString "end", qualname := Str.ofString "Buffer.end", params := (dP (sub 36 4)), body := FuncBody.stmts (dB (sub 36 4)), scope := (dS (sub 32 0)), globals := 3, closure := [], defaults := .none, kwdefaults := .none, pyModule := vs "emacs.buffer" 757, code := .ref 455 } }
noncomputable def q291 (P : Params) : Obj := { cls := .type "tuple", data := Data.seq #[vs "self" 813] }
noncomputable def q292 (P : Params) : Obj := { cls := .none, data := Data.func { name := Str.ofString "size", qualname := Str.ofString "Buffer.size", params := (dP (sub 36 5)), body := FuncBody.stmts (dB (sub 36 5)), scope := (dS (sub 32 0)), globals := 0, closure := [], defaults := .none, kwdefaults := .none } }
noncomputable def q293 (P : Params) : Obj := { cls := .type "code", data := Data.fields #[vs "size" 810, vs "Buffer.size" 811, vs "/claim/cut.py" 812, .int 298 0, .int 1 0, .int 0 0, .int 0 0, .int 3 0, .ref 457, .bool true, .int 181 0, .ref 458, .none, .ref 459, .ref 460, .ref 461, .int 814 0, .int 298 0, vs "/claim/cut.py" 815] }
noncomputable def q294 (P : Params) : Obj := { cls := .type "function", data := Data.func { name := Str.ofString "size", qualname := Str.ofString "Buffer.size", params := (dP (sub 36 5)), body := FuncBody.stmts (dB (sub 36 5)), scope := (dS (sub 32 0)), globals := 3, closure := [], defaults := .none, kwdefaults := .none, pyModule := vs "emacs.buffer" 757, code := .ref 462 } }
noncomputable def q295 (P : Params) : Obj := { cls := .type "tuple", data := Data.seq #[vs "self" 820, vs "place" 821] }
noncomputable def q296 (P : Params) : Obj := { cls := .none, data := Data.func { name := Str.ofString "code_at", qualname := Str.ofString "Buffer.code_at", params := (dP (sub 36 6)), body := FuncBody.stmts (dB (sub 36 6)), scope := (dS (sub 36 6)), globals := 0, closure := [], defaults := .none, kwdefaults := .none } }
noncomputable def q297 (P : Params) : Obj := { cls := .type "code", data := Data.fields #[vs "code_at" 817, vs "Buffer.code_at" 818, vs "/claim/cut.py" 819, .int 301 0, .int 2 0, .int 0 0, .int 0 0, .int 3 0, .ref 464, .bool true, .int 181 0, .ref 465, .none, .ref 466, .ref 467, .ref 468, .int 822 0, .int 301 0, vs "/claim/cut.py" 823] }
noncomputable def q298 (P : Params) : Obj := { cls := .type "function", data := Data.func { name := Str.ofString "code_at", qualname := Str.ofString "Buffer.code_at", params := (dP (sub 36 6)), body := FuncBody.stmts (dB (sub 36 6)), scope := (dS (sub 36 6)), globals := 3, closure := [], defaults := .none, kwdefaults := .none, pyModule := vs "emacs.buffer" 757, code := .ref 469 } }
noncomputable def q299 (P : Params) : Obj := { cls := .type "tuple", data := Data.seq #[vs "self" 828, vs "start" 829, vs "end" 830] }
noncomputable def q300 (P : Params) : Obj := { cls := .none, data := Data.func { name := Str.ofString "codes", qualname := Str.ofString "Buffer.codes", params := (dP (sub 36 7)), body := FuncBody.stmts (dB (sub 36 7)), scope := (dS (sub 36 7)), globals := 0, closure := [], defaults := .none, kwdefaults := .none } }
noncomputable def q301 (P : Params) : Obj := { cls := .type "code", data := Data.fields #[vs "codes" 825, vs "Buffer.codes" 826, vs "/claim/cut.py" 827, .int 306 0, .int 3 0, .int 0 0, .int 0 0, .int 3 0, .ref 471, .bool true, .int 181 0, .ref 472, .none, .ref 473, .ref 474, .ref 475, .int 831 0, .int 306 0, vs "/claim/cut.py" 832] }
noncomputable def q302 (P : Params) : Obj := { cls := .type "function", data := Data.func { name := Str.ofString "codes", qualname := Str.ofString "Buffer.codes", params := (dP (sub 36 7)), body := FuncBody.stmts (dB (sub 36 7)), scope := (dS (sub 36 7)), globals := 3, closure := [], defaults := .none, kwdefaults := .none, pyModule := vs "emacs.buffer" 757, code := .ref 476 } }
noncomputable def q303 (P : Params) : Obj := { cls := .type "tuple", data := Data.seq #[vs "self" 837, vs "place" 838] }
noncomputable def q304 (P : Params) : Obj := { cls := .none, data := Data.func { name := Str.ofString "goto", qualname := Str.ofString "Buffer.goto", params := (dP (sub 36 8)), body := FuncBody.stmts (dB (sub 36 8)), scope := (dS (sub 36 8)), globals := 0, closure := [], defaults := .none, kwdefaults := .none } }
noncomputable def q305 (P : Params) : Obj := { cls := .type "code", data := Data.fields #[vs "goto" 834, vs "Buffer.goto" 835, vs "/claim/cut.py" 836, .int 309 0, .int 2 0, .int 0 0, .int 0 0, .int 3 0, .ref 478, .bool true, .int 181 0, .ref 479, .none, .ref 480, .ref 481, .ref 482, .int 839 0, .int 309 0, vs "/claim/cut.py" 840] }
noncomputable def q306 (P : Params) : Obj := { cls := .type "function", data := Data.func { name := Str.ofString "goto", qualname := Str.ofString "Buffer.goto", params := (dP (sub 36 8)), body := FuncBody.stmts (dB (sub 36 8)), scope := (dS (sub 36 8)), globals := 3, closure := [], defaults := .none, kwdefaults := .none, pyModule := vs "emacs.buffer" 757, code := .ref 483 } }
noncomputable def q307 (P : Params) : Obj := { cls := .type "tuple", data := Data.seq #[vs "self" 845] }
noncomputable def q308 (P : Params) : Obj := { cls := .none, data := Data.func { name := Str.ofString "tick", qualname := Str.ofString "Buffer.tick", params := (dP (sub 36 9)), body := FuncBody.stmts (dB (sub 36 9)), scope := (dS (sub 30 9)), globals := 0, closure := [], defaults := .none, kwdefaults := .none } }
noncomputable def q309 (P : Params) : Obj := { cls := .type "code", data := Data.fields #[vs "tick" 842, vs "Buffer.tick" 843, vs "/claim/cut.py" 844, .int 312 0, .int 1 0, .int 0 0, .int 0 0, .int 3 0, .ref 485, .bool true, .int 181 0, .ref 486, .none, .ref 487, .ref 488, .ref 489, .int 846 0, .int 312 0, vs "/claim/cut.py" 847] }
noncomputable def q310 (P : Params) : Obj := { cls := .type "function", data := Data.func { name := Str.ofString "tick", qualname := Str.ofString "Buffer.tick", params := (dP (sub 36 9)), body := FuncBody.stmts (dB (sub 36 9)), scope := (dS (sub 30 9)), globals := 3, closure := [], defaults := .none, kwdefaults := .none, pyModule := vs "emacs.buffer" 757, code := .ref 490 } }
noncomputable def q311 (P : Params) : Obj := { cls := .type "tuple", data := Data.seq #[vs "self" 852] }
noncomputable def q312 (P : Params) : Obj := { cls := .none, data := Data.func { name := Str.ofString "is_modified", qualname := Str.ofString "Buffer.is_modified", params := (dP (sub 36 10)), body := FuncBody.stmts (dB (sub 36 10)), scope := (dS (sub 30 9)), globals := 0, closure := [], defaults := .none, kwdefaults := .none } }
noncomputable def q313 (P : Params) : Obj := { cls := .type "code", data := Data.fields #[vs "is_modified" 849, vs "Buffer.is_modified" 850, vs "/claim/cut.py" 851, .int 315 0, .int 1 0, .int 0 0, .int 0 0, .int 3 0, .ref 492, .bool true, .int 181 0, .ref 493, .none, .ref 494, .ref 495, .ref 496, .int 853 0, .int 315 0, vs "/claim/cut.py" 854] }
noncomputable def q314 (P : Params) : Obj := { cls := .type "function", data := Data.func { name := Str.ofString "is_modified", qualname := Str.ofString "Buffer.is_modified", params := (dP (sub 36 10)), body := FuncBody.stmts (dB (sub 36 10)), scope := (dS (sub 30 9)), globals := 3, closure := [], defaults := .none, kwdefaults := .none, pyModule := vs "emacs.buffer" 757, code := .ref 497 } }
noncomputable def q315 (P : Params) : Obj := { cls := .type "tuple", data := Data.seq #[vs "self" 859, vs "is_so" 860] }
noncomputable def q316 (P : Params) : Obj := { cls := .none, data := Data.func { name := Str.ofString "set_modified", qualname := Str.ofString "Buffer.set_modified", params := (dP (sub 36 11)), body := FuncBody.stmts (dB (sub 36 11)), scope := (dS (sub 36 11)), globals := 0, closure := [], defaults := .none, kwdefaults := .none } }
noncomputable def q317 (P : Params) : Obj := { cls := .type "code", data := Data.fields #[vs "set_modified" 856, vs "Buffer.set_modified" 857, vs "/claim/cut.py" 858, .int 318 0, .int 2 0, .int 0 0, .int 0 0, .int 3 0, .ref 499, .bool true, .int 181 0, .ref 500, .none, .ref 501, .ref 502, .ref 503, .int 861 0, .int 318 0, vs "/claim/cut.py" 862] }
noncomputable def q318 (P : Params) : Obj := { cls := .type "function", data := Data.func { name := Str.ofString "set_modified", qualname := Str.ofString "Buffer.set_modified", params := (dP (sub 36 11)), body := FuncBody.stmts (dB (sub 36 11)), scope := (dS (sub 36 11)), globals := 3, closure := [], defaults := .none, kwdefaults := .none, pyModule := vs "emacs.buffer" 757, code := .ref 504 } }
noncomputable def q319 (P : Params) : Obj := { cls := .type "tuple", data := Data.seq #[vs "self" 867, vs "are_codes" 868] }
noncomputable def q320 (P : Params) : Obj := { cls := .none, data := Data.func { name := Str.ofString "touch", qualname := Str.ofString "Buffer.touch", params := (dP (sub 36 12)), body := FuncBody.stmts (dB (sub 36 12)), scope := (dS (sub 36 12)), globals := 0, closure := [], defaults := .none, kwdefaults := .none } }
noncomputable def q321 (P : Params) : Obj := { cls := .type "code", data := Data.fields #[vs "touch" 864, vs "Buffer.touch" 865, vs "/claim/cut.py" 866, .int 321 0, .int 2 0, .int 0 0, .int 0 0, .int 3 0, .ref 506, .bool true, .int 181 0, .ref 507, .none, .ref 508, .ref 509, .ref 510, .int 869 0, .int 321 0, vs "/claim/cut.py" 870] }
noncomputable def q322 (P : Params) : Obj := { cls := .type "function", data := Data.func { name := Str.ofString "touch", qualname := Str.ofString "Buffer.touch", params := (dP (sub 36 12)), body := FuncBody.stmts (dB (sub 36 12)), scope := (dS (sub 36 12)), globals := 3, closure := [], defaults := .none, kwdefaults := .none, pyModule := vs "emacs.buffer" 757, code := .ref 511 } }
noncomputable def q323 (P : Params) : Obj := { cls := .type "tuple", data := Data.seq #[vs "begv" 872, vs "codes_ticks" 873, vs "file" 874, vs "is_live" 875, vs "is_read_only" 876, vs "listeners" 877, vs "locals" 878, vs "mark" 879, vs "markers" 880, vs "name" 881, vs "number" 882, vs "overlays" 883, vs "point" 884, vs "props" 885, vs "saved_ticks" 886, vs "syntax" 887, vs "text" 888, vs "ticks" 889, vs "undo" 890, vs "zv" 891] }
noncomputable def q324 (P : Params) : Obj := { cls := .type "dict", data := Data.dict #[en P "__module__" 766 (vs "emacs.buffer" 757), en P "__firstlineno__" 770 (.int 262 769), en P "__init__" 781 (.ref 428), en P "shown" 788 (.ref 435), en P "kind" 795 (.ref 442), en P "begin" 802 (.ref 449), en P "end" 809 (.ref 456), en P "size" 816 (.ref 463), en P "code_at" 824 (.ref 470), en P "codes" 833 (.ref 477), en P "goto" 841 (.ref 484), en P "tick" 848 (.ref 491), en P "is_modified" 855 (.ref 498), en P "set_modified" 863 (.ref 505), en P "touch" 871 (.ref 512), en P "__static_attributes__" 892 (.ref 513), en P "__doc__" 893 (.none)] 2 }
noncomputable def q325 (P : Params) : Obj := { cls := .type "type", data := Data.cls { name := Str.ofString "Buffer", bases := [.ref 409], mro := [.ref 515, .ref 409, .type "object"], ns := 514, qualname := Str.ofString "Buffer" }, slots := #[some (.ref 414), none, some (vs "Buffer" 759), some (vs "Buffer" 767), some (Value.builtin "object.__new__"), some (.bool true)] }
noncomputable def q326 (P : Params) : Obj := { cls := .type "super", data := Data.fields #[.ref 515, .ref 515, .ref 515] }
noncomputable def q327 (P : Params) : Obj := { cls := .type "builtin_function_or_method", data := Data.fields #[Value.builtin "object.__init_subclass__", .ref 515] }
noncomputable def tr9 (P : Params) : BT := putT (tr8 P) [(3, q262 P), (12, q263 P), (409, q264 P), (414, q265 P), (415, q18 P), (416, q266 P), (417, boot_o_7 P), (418, q267 P), (419, q268 P), (420, q269 P), (421, q270 P), (422, boot_o_7 P), (423, boot_o_8 P), (424, q271 P), (425, boot_o_7 P), (426, q272 P), (427, q273 P), (428, q274 P), (429, boot_o_7 P), (430, boot_o_8 P), (431, q275 P), (432, boot_o_7 P), (433, q276 P), (434, q277 P), (435, q278 P), (436, boot_o_7 P), (437, boot_o_8 P), (438, q279 P), (439, boot_o_7 P), (440, q280 P), (441, q281 P), (442, q282 P), (443, boot_o_7 P), (444, boot_o_8 P), (445, q283 P), (446, boot_o_7 P), (447, q284 P), (448, q285 P), (449, q286 P), (450, boot_o_7 P), (451, boot_o_8 P), (452, q287 P), (453, boot_o_7 P), (454, q288 P), (455, q289 P), (456, q290 P), (457, boot_o_7 P), (458, boot_o_8 P), (459, q291 P), (460, boot_o_7 P), (461, q292 P), (462, q293 P), (463, q294 P), (464, boot_o_7 P), (465, boot_o_8 P), (466, q295 P), (467, boot_o_7 P), (468, q296 P), (469, q297 P), (470, q298 P), (471, boot_o_7 P), (472, boot_o_8 P), (473, q299 P), (474, boot_o_7 P), (475, q300 P), (476, q301 P), (477, q302 P), (478, boot_o_7 P), (479, boot_o_8 P), (480, q303 P), (481, boot_o_7 P), (482, q304 P), (483, q305 P), (484, q306 P), (485, boot_o_7 P), (486, boot_o_8 P), (487, q307 P), (488, boot_o_7 P), (489, q308 P), (490, q309 P), (491, q310 P), (492, boot_o_7 P), (493, boot_o_8 P), (494, q311 P), (495, boot_o_7 P), (496, q312 P), (497, q313 P), (498, q314 P), (499, boot_o_7 P), (500, boot_o_8 P), (501, q315 P), (502, boot_o_7 P), (503, q316 P), (504, q317 P), (505, q318 P), (506, boot_o_7 P), (507, boot_o_8 P), (508, q319 P), (509, boot_o_7 P), (510, q320 P), (511, q321 P), (512, q322 P), (513, q323 P), (514, q324 P), (515, q325 P), (516, q326 P), (517, q327 P)]
noncomputable def q328 (P : Params) : Obj := { cls := .type "dict", data := Data.dict #[en P "__name__" 165 (vs "law_np0070_01" 896), en P "__doc__" 166 (.none), en P "__package__" 167 (.none), en P "__loader__" 168 (Value.builtin "__main__.__loader__#opaque"), en P "__spec__" 169 (.none), en P "__annotations__" 170 (.ref 6), en P "__builtins__" 171 (.ref 4), en P "__file__" 173 (vs "/claim/cut.py" 172), en P "__cached__" 174 (.none), en P "_wall" 193 (.ref 21), en P "downcase" 202 (.ref 28), en P "fold" 209 (.ref 35), en P "LispSignal" 242 (.ref 52), en P "need_writable" 251 (.ref 62), en P "reached" 262 (.ref 69), en P "tell_ahead" 272 (.ref 76), en P "tell_behind" 283 (.ref 83), en P "text_out" 293 (.ref 90), en P "text_in" 302 (.ref 97), en P "hung_out" 311 (.ref 104), en P "hung_in" 321 (.ref 111), en P "put_in" 332 (.ref 118), en P "insert" 341 (.ref 126), en P "delete" 353 (.ref 133), en P "NEWLINE" 357 (.int 10 356), en P "line_start" 366 (.ref 140), en P "line_end" 375 (.ref 147), en P "Literal" 430 (.ref 178), en P "how_many" 445 (.ref 189), en P "row_matches" 456 (.ref 196), en P "rows_by" 474 (.ref 203), en P "keep_lines" 484 (.ref 210), en P "flush_lines" 494 (.ref 217), en P "GapText" 614 (.ref 304), en P "Markers" 712 (.ref 374), en P "Opaque" 756 (.ref 409), en P "Buffer" 895 (.ref 515), en P "_law_draw" 905 (.ref 524), en P "_law_small" 911 (.ref 529), en P "_law_count" 924 (.ref 536), en P "_law_left" 943 (.ref 543), en P "_law_buffer" 951 (.ref 550), en P "law" 957 (.ref 555)] 43 }
noncomputable def q329 (P : Params) : Obj := { cls := .none, data := Data.fields #[.int 1 0, .int 0 0, .ref 20, .int 5 0, .int 0 0, .ref 27, .int 9 0, .int 0 0, .ref 34, .int 12 0, .int 0 0, .ref 41, .int 18 0, .int 0 0, .ref 61, .int 21 0, .int 0 0, .ref 68, .int 26 0, .int 0 0, .ref 75, .int 29 0, .int 0 0, .ref 82, .int 33 0, .int 0 0, .ref 89, .int 41 0, .int 0 0, .ref 96, .int 48 0, .int 0 0, .ref 103, .int 53 0, .int 0 0, .ref 110, .int 58 0, .int 0 0, .ref 117, .int 70 0, .int 0 0, .ref 125, .int 72 0, .int 0 0, .ref 132, .int 85 0, .int 0 0, .ref 139, .int 90 0, .int 0 0, .ref 146, .int 96 0, .int 0 0, .ref 153, .int 114 0, .int 0 0, .ref 188, .int 123 0, .int 0 0, .ref 195, .int 126 0, .int 0 0, .ref 202, .int 142 0, .int 0 0, .ref 209, .int 144 0, .int 0 0, .ref 216, .int 147 0, .int 0 0, .ref 223, .int 213 0, .int 0 0, .ref 314, .int 251 0, .int 0 0, .ref 384, .int 262 0, .int 0 0, .ref 419, .int 326 0, .int 0 0, .ref 523, .int 328 0, .int 0 0, .ref 528, .int 330 0, .int 0 0, .ref 535, .int 338 0, .int 0 0, .ref 542, .int 351 0, .int 0 0, .ref 549, .int 355 0, .int 0 0, .ref 554] }
noncomputable def q330 (P : Params) : Obj := { cls := .type "tuple", data := Data.seq #[vs "deck" 901, vs "many" 902] }
noncomputable def q331 (P : Params) : Obj := { cls := .none, data := Data.func { name := Str.ofString "_law_draw", qualname := Str.ofString "_law_draw", params := (dP (stm 38)), body := FuncBody.stmts (dB (stm 38)), scope := (dS (stm 38)), globals := 0, closure := [], defaults := .none, kwdefaults := .none } }
noncomputable def q332 (P : Params) : Obj := { cls := .type "code", data := Data.fields #[vs "_law_draw" 898, vs "_law_draw" 899, vs "/claim/cut.py" 900, .int 326 0, .int 2 0, .int 0 0, .int 0 0, .int 3 0, .ref 518, .bool true, .int 181 0, .ref 519, .none, .ref 520, .ref 521, .ref 522, .int 903 0, .int 326 0, vs "/claim/cut.py" 904] }
noncomputable def q333 (P : Params) : Obj := { cls := .type "function", data := Data.func { name := Str.ofString "_law_draw", qualname := Str.ofString "_law_draw", params := (dP (stm 38)), body := FuncBody.stmts (dB (stm 38)), scope := (dS (stm 38)), globals := 3, closure := [], defaults := .none, kwdefaults := .none, pyModule := vs "law_np0070_01" 896, code := .ref 523 } }
noncomputable def q334 (P : Params) : Obj := { cls := .none, data := Data.func { name := Str.ofString "_law_small", qualname := Str.ofString "_law_small", params := (dP (stm 39)), body := FuncBody.stmts (dB (stm 39)), scope := (dS (stm 39)), globals := 0, closure := [], defaults := .none, kwdefaults := .none } }
noncomputable def q335 (P : Params) : Obj := { cls := .type "code", data := Data.fields #[vs "_law_small" 906, vs "_law_small" 907, vs "/claim/cut.py" 908, .int 328 0, .int 2 0, .int 0 0, .int 0 0, .int 3 0, .ref 525, .bool true, .int 181 0, .ref 526, .none, .none, .none, .ref 527, .int 909 0, .int 328 0, vs "/claim/cut.py" 910] }
noncomputable def q336 (P : Params) : Obj := { cls := .type "function", data := Data.func { name := Str.ofString "_law_small", qualname := Str.ofString "_law_small", params := (dP (stm 39)), body := FuncBody.stmts (dB (stm 39)), scope := (dS (stm 39)), globals := 3, closure := [], defaults := .none, kwdefaults := .none, pyModule := vs "law_np0070_01" 896, code := .ref 528 } }
noncomputable def q337 (P : Params) : Obj := { cls := .type "tuple", data := Data.seq #[vs "codes" 915, vs "own" 916, vs "is_folded" 917, vs "many" 918, vs "place" 919, vs "plain_here" 920, vs "wanted" 921] }
noncomputable def q338 (P : Params) : Obj := { cls := .none, data := Data.func { name := Str.ofString "_law_count", qualname := Str.ofString "_law_count", params := (dP (stm 40)), body := FuncBody.stmts (dB (stm 40)), scope := (dS (stm 40)), globals := 0, closure := [], defaults := .none, kwdefaults := .none } }
noncomputable def q339 (P : Params) : Obj := { cls := .type "code", data := Data.fields #[vs "_law_count" 912, vs "_law_count" 913, vs "/claim/cut.py" 914, .int 330 0, .int 3 0, .int 0 0, .int 0 0, .int 3 0, .ref 530, .bool true, .int 181 0, .ref 531, .none, .ref 532, .ref 533, .ref 534, .int 922 0, .int 330 0, vs "/claim/cut.py" 923] }
noncomputable def q340 (P : Params) : Obj := { cls := .type "function", data := Data.func { name := Str.ofString "_law_count", qualname := Str.ofString "_law_count", params := (dP (stm 40)), body := FuncBody.stmts (dB (stm 40)), scope := (dS (stm 40)), globals := 3, closure := [], defaults := .none, kwdefaults := .none, pyModule := vs "law_np0070_01" 896, code := .ref 535 } }
noncomputable def q341 (P : Params) : Obj := { cls := .type "tuple", data := Data.seq #[vs "codes" 928, vs "low" 929, vs "high" 930, vs "own" 931, vs "is_folded" 932, vs "is_kept_here" 933, vs "found" 934, vs "many" 935, vs "start" 936, vs "place" 937, vs "line" 938, vs "after_here" 939, vs "is_within" 940] }
noncomputable def q342 (P : Params) : Obj := { cls := .none, data := Data.func { name := Str.ofString "_law_left", qualname := Str.ofString "_law_left", params := (dP (stm 41)), body := FuncBody.stmts (dB (stm 41)), scope := (dS (stm 41)), globals := 0, closure := [], defaults := .none, kwdefaults := .none } }
noncomputable def q343 (P : Params) : Obj := { cls := .type "code", data := Data.fields #[vs "_law_left" 925, vs "_law_left" 926, vs "/claim/cut.py" 927, .int 338 0, .int 6 0, .int 0 0, .int 0 0, .int 3 0, .ref 537, .bool true, .int 181 0, .ref 538, .none, .ref 539, .ref 540, .ref 541, .int 941 0, .int 338 0, vs "/claim/cut.py" 942] }
noncomputable def q344 (P : Params) : Obj := { cls := .type "function", data := Data.func { name := Str.ofString "_law_left", qualname := Str.ofString "_law_left", params := (dP (stm 41)), body := FuncBody.stmts (dB (stm 41)), scope := (dS (stm 41)), globals := 3, closure := [], defaults := .none, kwdefaults := .none, pyModule := vs "law_np0070_01" 896, code := .ref 542 } }
noncomputable def q345 (P : Params) : Obj := { cls := .type "tuple", data := Data.seq #[vs "codes" 947, vs "buffer" 948] }
noncomputable def q346 (P : Params) : Obj := { cls := .none, data := Data.func { name := Str.ofString "_law_buffer", qualname := Str.ofString "_law_buffer", params := (dP (stm 42)), body := FuncBody.stmts (dB (stm 42)), scope := (dS (stm 42)), globals := 0, closure := [], defaults := .none, kwdefaults := .none } }
noncomputable def q347 (P : Params) : Obj := { cls := .type "code", data := Data.fields #[vs "_law_buffer" 944, vs "_law_buffer" 945, vs "/claim/cut.py" 946, .int 351 0, .int 1 0, .int 0 0, .int 0 0, .int 3 0, .ref 544, .bool true, .int 181 0, .ref 545, .none, .ref 546, .ref 547, .ref 548, .int 949 0, .int 351 0, vs "/claim/cut.py" 950] }
noncomputable def q348 (P : Params) : Obj := { cls := .type "function", data := Data.func { name := Str.ofString "_law_buffer", qualname := Str.ofString "_law_buffer", params := (dP (stm 42)), body := FuncBody.stmts (dB (stm 42)), scope := (dS (stm 42)), globals := 3, closure := [], defaults := .none, kwdefaults := .none, pyModule := vs "law_np0070_01" 896, code := .ref 549 } }
noncomputable def q349 (P : Params) : Obj := { cls := .none, data := Data.func { name := Str.ofString "law", qualname := Str.ofString "law", params := (dP (stm 43)), body := FuncBody.stmts (dB (stm 43)), scope := (dS (stm 43)), globals := 0, closure := [], defaults := .none, kwdefaults := .none } }
noncomputable def q350 (P : Params) : Obj := { cls := .type "code", data := Data.fields #[vs "law" 952, vs "law" 953, vs "/claim/cut.py" 954, .int 355 0, .int 1 0, .int 0 0, .int 0 0, .int 3 0, .ref 551, .bool true, .int 181 0, .ref 552, .none, .none, .none, .ref 553, .int 955 0, .int 355 0, vs "/claim/cut.py" 956] }
noncomputable def q351 (P : Params) : Obj := { cls := .type "function", data := Data.func { name := Str.ofString "law", qualname := Str.ofString "law", params := (dP (stm 43)), body := FuncBody.stmts (dB (stm 43)), scope := (dS (stm 43)), globals := 3, closure := [], defaults := .none, kwdefaults := .none, pyModule := vs "law_np0070_01" 896, code := .ref 554 } }
noncomputable def tr10 (P : Params) : BT := putT (tr9 P) [(3, q328 P), (12, q329 P), (518, boot_o_7 P), (519, boot_o_8 P), (520, q330 P), (521, boot_o_7 P), (522, q331 P), (523, q332 P), (524, q333 P), (525, boot_o_7 P), (526, boot_o_8 P), (527, q334 P), (528, q335 P), (529, q336 P), (530, boot_o_7 P), (531, boot_o_8 P), (532, q337 P), (533, boot_o_7 P), (534, q338 P), (535, q339 P), (536, q340 P), (537, boot_o_7 P), (538, boot_o_8 P), (539, q341 P), (540, boot_o_7 P), (541, q342 P), (542, q343 P), (543, q344 P), (544, boot_o_7 P), (545, boot_o_8 P), (546, q345 P), (547, boot_o_7 P), (548, q346 P), (549, q347 P), (550, q348 P), (551, boot_o_7 P), (552, boot_o_8 P), (553, q349 P), (554, q350 P), (555, q351 P)]
noncomputable def hpF (P : Params) : Heap := ⟨⟨[boot_o_0 P, boot_o_1 P, q2 P, q328 P, boot_o_4 P, boot_o_5 P, boot_o_6 P, boot_o_7 P, boot_o_8 P, boot_o_9 P, boot_o_10 P, boot_o_7 P, q329 P, q0 P, q1 P, boot_o_7 P, boot_o_8 P, q5 P, boot_o_7 P, q6 P, q7 P, q8 P, boot_o_7 P, boot_o_8 P, q9 P, boot_o_7 P, q10 P, q11 P, q12 P, boot_o_7 P, boot_o_8 P, q13 P, boot_o_7 P, q14 P, q15 P, q16 P, q17 P, q18 P, q19 P, boot_o_7 P, q20 P, q21 P, q22 P, boot_o_7 P, boot_o_8 P, q23 P, boot_o_7 P, q24 P, q25 P, q26 P, q27 P, q28 P, q29 P, q30 P, q31 P, q32 P, boot_o_7 P, boot_o_8 P, q33 P, boot_o_7 P, q34 P, q35 P, q36 P, boot_o_7 P, boot_o_8 P, q37 P, boot_o_7 P, q38 P, q39 P, q40 P, boot_o_7 P, boot_o_8 P, q43 P, boot_o_7 P, q44 P, q45 P, q46 P, boot_o_7 P, boot_o_8 P, q47 P, boot_o_7 P, q48 P, q49 P, q50 P, boot_o_7 P, boot_o_8 P, q51 P, boot_o_7 P, q52 P, q53 P, q54 P, boot_o_7 P, boot_o_8 P, q55 P, boot_o_7 P, q56 P, q57 P, q58 P, boot_o_7 P, boot_o_8 P, q59 P, boot_o_7 P, q60 P, q61 P, q62 P, boot_o_7 P, boot_o_8 P, q63 P, boot_o_7 P, q64 P, q65 P, q66 P, boot_o_7 P, boot_o_8 P, q67 P, boot_o_7 P, q68 P, q69 P, q70 P, q71 P, boot_o_7 P, boot_o_8 P, q72 P, boot_o_7 P, q73 P, q74 P, q75 P, boot_o_7 P, boot_o_8 P, q76 P, boot_o_7 P, q77 P, q78 P, q79 P, boot_o_7 P, boot_o_8 P, q80 P, boot_o_7 P, q81 P, q82 P, q83 P, boot_o_7 P, boot_o_8 P, q84 P, boot_o_7 P, q85 P, q86 P, q87 P, boot_o_7 P, q18 P, q90 P, boot_o_7 P, q91 P, q92 P, q93 P, boot_o_7 P, boot_o_8 P, q94 P, boot_o_7 P, q95 P, q96 P, q97 P, boot_o_7 P, boot_o_8 P, q98 P, boot_o_7 P, q99 P, q100 P, q101 P, boot_o_7 P, boot_o_8 P, q102 P, boot_o_7 P, q103 P, q104 P, q105 P, q106 P, q107 P, q108 P, q109 P, q110 P, q111 P, q112 P, boot_o_7 P, boot_o_8 P, q113 P, boot_o_7 P, q114 P, q115 P, q116 P, boot_o_7 P, boot_o_8 P, q117 P, boot_o_7 P, q118 P, q119 P, q120 P, boot_o_7 P, boot_o_8 P, q121 P, boot_o_7 P, q122 P, q123 P, q124 P, boot_o_7 P, boot_o_8 P, q127 P, boot_o_7 P, q128 P, q129 P, q130 P, boot_o_7 P, boot_o_8 P, q131 P, boot_o_7 P, q132 P, q133 P, q134 P, boot_o_7 P, q18 P, q137 P, boot_o_7 P, q138 P, q139 P, q140 P, boot_o_7 P, boot_o_8 P, q141 P, boot_o_7 P, q142 P, q143 P, q144 P, boot_o_7 P, boot_o_8 P, q145 P, boot_o_7 P, q146 P, q147 P, q148 P, boot_o_7 P, boot_o_8 P, q149 P, boot_o_7 P, q150 P, q151 P, q152 P, boot_o_7 P, boot_o_8 P, q153 P, boot_o_7 P, q154 P, q155 P, q156 P, boot_o_7 P, boot_o_8 P, q157 P, boot_o_7 P, q158 P, q159 P, q160 P, boot_o_7 P, boot_o_8 P, q161 P, boot_o_7 P, q162 P, q163 P, q164 P, boot_o_7 P, boot_o_8 P, q165 P, boot_o_7 P, q166 P, q167 P, q168 P, boot_o_7 P, boot_o_8 P, q169 P, boot_o_7 P, q170 P, q171 P, q172 P, boot_o_7 P, boot_o_8 P, q173 P, boot_o_7 P, q174 P, q175 P, q176 P, boot_o_7 P, boot_o_8 P, q177 P, boot_o_7 P, q178 P, q179 P, q180 P, boot_o_7 P, boot_o_8 P, q181 P, boot_o_7 P, q182 P, q183 P, q184 P, q185 P, q186 P, q187 P, q188 P, q189 P, q190 P, q191 P, boot_o_7 P, q18 P, q195 P, boot_o_7 P, q196 P, q197 P, q198 P, boot_o_7 P, boot_o_8 P, q199 P, boot_o_7 P, q200 P, q201 P, q202 P, boot_o_7 P, boot_o_8 P, q203 P, boot_o_7 P, q204 P, q205 P, q206 P, boot_o_7 P, boot_o_8 P, q207 P, boot_o_7 P, q208 P, q209 P, q210 P, boot_o_7 P, boot_o_8 P, q211 P, boot_o_7 P, q212 P, q213 P, q214 P, boot_o_7 P, boot_o_8 P, q215 P, boot_o_7 P, q216 P, q217 P, q218 P, boot_o_7 P, boot_o_8 P, q219 P, boot_o_7 P, q220 P, q221 P, q222 P, boot_o_7 P, boot_o_8 P, q223 P, boot_o_7 P, q224 P, q225 P, q226 P, boot_o_7 P, boot_o_8 P, q227 P, boot_o_7 P, q228 P, q229 P, q230 P, q231 P, q232 P, q233 P, q234 P, q235 P, q236 P, q237 P, boot_o_7 P, q18 P, q240 P, boot_o_7 P, q241 P, q242 P, q243 P, boot_o_7 P, boot_o_8 P, q244 P, boot_o_7 P, q245 P, q246 P, q247 P, boot_o_7 P, boot_o_8 P, q248 P, boot_o_7 P, q249 P, q250 P, q251 P, boot_o_7 P, boot_o_8 P, q252 P, boot_o_7 P, q253 P, q254 P, q255 P, boot_o_7 P, q256 P, q264 P, q258 P, q259 P, q260 P, q261 P, q265 P, q18 P, q266 P, boot_o_7 P, q267 P, q268 P, q269 P, q270 P, boot_o_7 P, boot_o_8 P, q271 P, boot_o_7 P, q272 P, q273 P, q274 P, boot_o_7 P, boot_o_8 P, q275 P, boot_o_7 P, q276 P, q277 P, q278 P, boot_o_7 P, boot_o_8 P, q279 P, boot_o_7 P, q280 P, q281 P, q282 P, boot_o_7 P, boot_o_8 P, q283 P, boot_o_7 P, q284 P, q285 P, q286 P, boot_o_7 P, boot_o_8 P, q287 P, boot_o_7 P, q288 P, q289 P, q290 P, boot_o_7 P, boot_o_8 P, q291 P, boot_o_7 P, q292 P, q293 P, q294 P, boot_o_7 P, boot_o_8 P, q295 P, boot_o_7 P, q296 P, q297 P, q298 P, boot_o_7 P, boot_o_8 P, q299 P, boot_o_7 P, q300 P, q301 P, q302 P, boot_o_7 P, boot_o_8 P, q303 P, boot_o_7 P, q304 P, q305 P, q306 P, boot_o_7 P, boot_o_8 P, q307 P, boot_o_7 P, q308 P, q309 P, q310 P, boot_o_7 P, boot_o_8 P, q311 P, boot_o_7 P, q312 P, q313 P, q314 P, boot_o_7 P, boot_o_8 P, q315 P, boot_o_7 P, q316 P, q317 P, q318 P, boot_o_7 P, boot_o_8 P, q319 P, boot_o_7 P, q320 P, q321 P, q322 P, q323 P, q324 P, q325 P, q326 P, q327 P, boot_o_7 P, boot_o_8 P, q330 P, boot_o_7 P, q331 P, q332 P, q333 P, boot_o_7 P, boot_o_8 P, q334 P, q335 P, q336 P, boot_o_7 P, boot_o_8 P, q337 P, boot_o_7 P, q338 P, q339 P, q340 P, boot_o_7 P, boot_o_8 P, q341 P, boot_o_7 P, q342 P, q343 P, q344 P, boot_o_7 P, boot_o_8 P, q345 P, boot_o_7 P, q346 P, q347 P, q348 P, boot_o_7 P, boot_o_8 P, q349 P, q350 P, q351 P]⟩, { }⟩
theorem topA (w : World) : (fun os => topGo treeTable PySem.Challenge.pw_np0070_01 w 11 (some (Value.ref 6)) 12 ⟨boot_heap w.params, #[], boot_drawn, boot_toks, os⟩ (topStub PySem.Challenge.pw_np0070_01)) = fun os => some (⟨hpA w.params, #[], {}, 187, os⟩, Thread.mk (denote treeTable codM) codM (tpos 0 0 0 0) frM) := by
  rw [PySem.W.Fast.te15667345088766844465, PySem.W.Fast.te14364793385576792824, PySem.W.Fast.te11892475500146522536]
  kernel_rfl
theorem topB (w : World) : (fun os => segRun treeTable PySem.Challenge.pw_np0070_01 w 11 (some (Value.ref 6)) 1 1 ⟨hpA w.params, #[], {}, 187, os⟩ (blockOf (behindTheImports PySem.Challenge.pw_np0070_01) envM codM (tpos 0 0 0 0) frM)) = fun os => some (Flow.next, (stT (tr0 w.params) 15 187 os).abs, codM, tpos 0 0 0 0) := by
  rw [PySem.W.Fast.te14374325043358763698, PySem.W.Fast.te14364793385576792824]
  kernel_rfl
noncomputable def stsG1 : List Stmt := [stm 0, stm 1, stm 2, stm 3, stm 4, stm 5, stm 6, stm 7, stm 8]
theorem topG1 (w : World) : (fun os => segRunT treeTable PySem.Challenge.pw_np0070_01 w 11 (some (Value.ref 6)) 1 407 (stT (tr0 w.params) 15 187 os) (piecesOf stsG1 envM codM (tpos 0 0 0 0) frM)) = fun os => some (Flow.next, stT (tr1 w.params) 70 263 os, codM, tpos 21 0 25 22) := by
  rw [PySem.W.Fast.te10110043849684766642, PySem.W.Fast.te14364793385576792824]
  kernel_rfl
noncomputable def stsG2 : List Stmt := [stm 9, stm 10, stm 11, stm 12, stm 13, stm 14, stm 15, stm 16, stm 17, stm 18, stm 19, stm 20, stm 21, stm 22]
theorem topG2 (w : World) : (fun os => segRunT treeTable PySem.Challenge.pw_np0070_01 w 11 (some (Value.ref 6)) 1 380 (stT (tr1 w.params) 70 263 os) (piecesOf stsG2 envM codM (tpos 21 0 25 22) frM)) = fun os => some (Flow.next, stT (tr2 w.params) 148 378 os, codM, tpos 95 0 95 8) := by
  rw [PySem.W.Fast.te10110043849684766642, PySem.W.Fast.te14364793385576792824]
  kernel_rfl
noncomputable def stsG3 : List Stmt := [stm 23, stm 24, stm 25, stm 26]
theorem topG3 (w : World) : (fun os => segRunT treeTable PySem.Challenge.pw_np0070_01 w 11 (some (Value.ref 6)) 1 405 (stT (tr2 w.params) 148 378 os) (piecesOf stsG3 envM codM (tpos 95 0 95 8) frM)) = fun os => some (Flow.next, stT (tr3 w.params) 204 475 os, codM, tpos 126 0 141 15) := by
  rw [PySem.W.Fast.te10110043849684766642, PySem.W.Fast.te14364793385576792824]
  kernel_rfl
noncomputable def stsG4 : List Stmt := [stm 27, stm 28, stm 29]
theorem topG4 (w : World) : (fun os => segRunT treeTable PySem.Challenge.pw_np0070_01 w 11 (some (Value.ref 6)) 1 74 (stT (tr3 w.params) 204 475 os) (piecesOf stsG4 envM codM (tpos 126 0 141 15) frM)) = fun os => some (Flow.next, stT (tr4 w.params) 218 497 os, codM, tpos 146 0 146 8) := by
  rw [PySem.W.Fast.te10110043849684766642, PySem.W.Fast.te14364793385576792824]
  kernel_rfl
noncomputable def stsG5 : List Stmt := [stm 30]
theorem topG5 (w : World) : (fun os => segRunT treeTable PySem.Challenge.pw_np0070_01 w 11 (some (Value.ref 6)) 1 552 (stT (tr4 w.params) 218 497 os) (piecesOf stsG5 envM codM (tpos 146 0 146 8) frM)) = fun os => some (Flow.next, stT (tr5 w.params) 309 615 os, codM, tpos 147 0 211 16) := by
  rw [PySem.W.Fast.te10110043849684766642, PySem.W.Fast.te14364793385576792824]
  kernel_rfl
noncomputable def stsG6 : List Stmt := [stm 31]
theorem topG6 (w : World) : (fun os => segRunT treeTable PySem.Challenge.pw_np0070_01 w 11 (some (Value.ref 6)) 1 10 (stT (tr5 w.params) 309 615 os) (piecesOf stsG6 envM codM (tpos 147 0 211 16) frM)) = fun os => some (Flow.next, stT (tr6 w.params) 309 617 os, codM, tpos 212 0 212 8) := by
  rw [PySem.W.Fast.te10110043849684766642, PySem.W.Fast.te14364793385576792824]
  kernel_rfl
noncomputable def stsG7 : List Stmt := [stm 32]
theorem topG7 (w : World) : (fun os => segRunT treeTable PySem.Challenge.pw_np0070_01 w 11 (some (Value.ref 6)) 1 458 (stT (tr6 w.params) 309 617 os) (piecesOf stsG7 envM codM (tpos 212 0 212 8) frM)) = fun os => some (Flow.next, stT (tr7 w.params) 379 713 os, codM, tpos 213 0 249 16) := by
  rw [PySem.W.Fast.te10110043849684766642, PySem.W.Fast.te14364793385576792824]
  kernel_rfl
noncomputable def stsG8 : List Stmt := [stm 33, stm 34, stm 35]
theorem topG8 (w : World) : (fun os => segRunT treeTable PySem.Challenge.pw_np0070_01 w 11 (some (Value.ref 6)) 1 302 (stT (tr7 w.params) 379 713 os) (piecesOf stsG8 envM codM (tpos 213 0 249 16) frM)) = fun os => some (Flow.next, stT (tr8 w.params) 414 759 os, codM, tpos 261 0 261 8) := by
  rw [PySem.W.Fast.te10110043849684766642, PySem.W.Fast.te14364793385576792824]
  kernel_rfl
noncomputable def stsG9 : List Stmt := [stm 36]
theorem topG9 (w : World) : (fun os => segRunT treeTable PySem.Challenge.pw_np0070_01 w 11 (some (Value.ref 6)) 1 647 (stT (tr8 w.params) 414 759 os) (piecesOf stsG9 envM codM (tpos 261 0 261 8) frM)) = fun os => some (Flow.next, stT (tr9 w.params) 518 896 os, codM, tpos 262 0 324 41) := by
  rw [PySem.W.Fast.te10110043849684766642, PySem.W.Fast.te14364793385576792824]
  kernel_rfl
noncomputable def stsG10 : List Stmt := [stm 37, stm 38, stm 39, stm 40, stm 41, stm 42, stm 43]
theorem topG10 (w : World) : (fun os => segRunT treeTable PySem.Challenge.pw_np0070_01 w 11 (some (Value.ref 6)) 1 198 (stT (tr9 w.params) 518 896 os) (piecesOf stsG10 envM codM (tpos 262 0 324 41) frM)) = fun os => some (Flow.next, stT (tr10 w.params) 556 958 os, codM, tpos 355 0 375 15) := by
  rw [PySem.W.Fast.te10110043849684766642, PySem.W.Fast.te14364793385576792824]
  kernel_rfl
theorem topF (w : World) : (fun os => topRun treeTable PySem.Challenge.pw_np0070_01 w 11 (some (Value.ref 6)) 2 (stT (tr10 w.params) 556 958 os).abs (Thread.mk (doneF Flow.next) codM (tpos 355 0 375 15) frM)) = fun os => some (⟨hpF w.params, #[], {}, 958, os⟩ : Shared) := by
  rw [PySem.W.Fast.te14082659384304107361, PySem.W.Fast.te14364793385576792824]
  kernel_rfl
theorem topBody (p : Pos) : restOf (behindTheImports PySem.Challenge.pw_np0070_01) envM codM p frM = restOf (stsG1 ++ (stsG2 ++ (stsG3 ++ (stsG4 ++ (stsG5 ++ (stsG6 ++ (stsG7 ++ (stsG8 ++ (stsG9 ++ (stsG10 ++ ([]))))))))))) envM codM p frM := by kernel_rfl
theorem topRest (w : World) (os : OsState) : topRun treeTable PySem.Challenge.pw_np0070_01 w 11 (some (Value.ref 6)) (407 + (380 + (405 + (74 + (552 + (10 + (458 + (302 + (647 + (198 + (2))))))))))) (stT (tr0 w.params) 15 187 os).abs (restOf (stsG1 ++ (stsG2 ++ (stsG3 ++ (stsG4 ++ (stsG5 ++ (stsG6 ++ (stsG7 ++ (stsG8 ++ (stsG9 ++ (stsG10 ++ ([]))))))))))) envM codM (tpos 0 0 0 0) frM) = some (⟨hpF w.params, #[], {}, 958, os⟩ : Shared) := piece_app (segRun_of (congrFun (topG1 w) os)) (piece_app (segRun_of (congrFun (topG2 w) os)) (piece_app (segRun_of (congrFun (topG3 w) os)) (piece_app (segRun_of (congrFun (topG4 w) os)) (piece_app (segRun_of (congrFun (topG5 w) os)) (piece_app (segRun_of (congrFun (topG6 w) os)) (piece_app (segRun_of (congrFun (topG7 w) os)) (piece_app (segRun_of (congrFun (topG8 w) os)) (piece_app (segRun_of (congrFun (topG9 w) os)) (piece_app (segRun_of (congrFun (topG10 w) os)) (piece_nil (congrFun (topF w) os)))))))))))
theorem topAll (w : World) (os : OsState) : topRun treeTable PySem.Challenge.pw_np0070_01 w 11 (some (Value.ref 6)) (12 + (1 + (407 + (380 + (405 + (74 + (552 + (10 + (458 + (302 + (647 + (198 + (2))))))))))))) ⟨boot_heap w.params, #[], boot_drawn, boot_toks, os⟩ (topStub PySem.Challenge.pw_np0070_01) = some (⟨hpF w.params, #[], {}, 958, os⟩ : Shared) :=
  go_top (congrFun (topA w) os) (piece_block (congrFun (topB w) os) ((congrArg (topRun treeTable PySem.Challenge.pw_np0070_01 w 11 (some (Value.ref 6)) (407 + (380 + (405 + (74 + (552 + (10 + (458 + (302 + (647 + (198 + (2))))))))))) (stT (tr0 w.params) 15 187 os).abs) (topBody (tpos 0 0 0 0))).trans (topRest w os)))
theorem topOpen1 : opening PySem.Challenge.pw_np0070_01 = plainProg PySem.Challenge.pw_np0070_01.main.scope.names := by kernel_rfl
theorem topOpen2 : ∀ s, fenceModules? PySem.Challenge.pw_np0070_01 s = some s := by intro s; kernel_rfl
theorem topOpen (w : World) : (fencedOpening treeTable PySem.Challenge.pw_np0070_01 w 6972).map (fun s => (s.heap, s.gens, s.drawn, s.toks)) = some (boot_heap w.params, #[], boot_drawn, boot_toks) := boot_open topOpen1 (by decide) topOpen2 w
theorem topSize (w : World) : ((boot_heap w.params).isNs mainGlobals && (#[] : Array GenState).size == 0, (boot_heap w.params).objs.size, (boot_heap w.params).nsMap mainGlobals "__annotations__") = (true, 11, some (Value.ref 6)) := by kernel_rfl
end
section
set_option maxHeartbeats 8000000 in
theorem wsaid : OpenLaw.wellSaid PySem.Challenge.rw_np0070_01 = true := by
  delta OpenLaw.wellSaid OpenRow.wellSaid OpenRow.partSaid looksOpen
  repeat' with_reducible refine look_both ?_ ?_
  all_goals decide +kernel
local macro_rules | `(tactic| k_head) => `(tactic| (fail_if_success (with_reducible show OpenRow.Holds _); skip))
set_option hygiene false
local macro_rules | `(tactic| o_law) => `(tactic| (refine holds_law wsaid fun said => ?_; refine' Function.const (LeftO (α := _) _ _ _ _ _ _ _ _) ?main ?hl; (case' main => f_assign k_head); (case hl => (
  refine LeftO.of_pieces (p := PySem.Challenge.pw_np0070_01) (H₀ := boot_heap) (H₁ := hpF) topOpen topSize topAll (by decide) ?_
  intro w
  refine funext fun os => ?_
  refine looks_pair (by as_aux_lemma => kernel_rfl) (looks_pair ?_ (by as_aux_lemma => kernel_rfl))
  unfold openSeen openGood
  refine looks_pair (by as_aux_lemma => kernel_rfl) (looks_pair (by as_aux_lemma => kernel_rfl) (looks_pair (by as_aux_lemma => kernel_rfl) (looks_pair (by as_aux_lemma => kernel_rfl) (looks_pair (by as_aux_lemma => kernel_rfl) (looks_pair (by as_aux_lemma => kernel_rfl) (looks_pair (by as_aux_lemma => kernel_rfl) (looks_pair (by as_aux_lemma => kernel_rfl) (by as_aux_lemma => kernel_rfl))))))))))))
set_option hygiene true
set_option maxHeartbeats 2000000 in
open_top hd for PySem.Challenge.rw_np0070_01
end
open PySem.Calls
noncomputable abbrev PR : Program := PySem.Challenge.rw_np0070_01.row.prog
noncomputable abbrev KF (w : World) : Frag := N70.hd.heap_1 w.params
noncomputable abbrev LW : List Str := looseW N70.hd.view_1 [Str.ofString "insert", Str.ofString "Buffer"]
abbrev Led := List (Addr × Obj)
abbrev Map := Str → Option Value
/-- a value without its token -/
inductive SV where
  | int (i : Int)
  | str (x : Str)
  | raw (v : Value)
abbrev SV.ref (a : Addr) : SV := .raw (.ref a)
abbrev SV.bool (b : Bool) : SV := .raw (.bool b)
abbrev SV.none : SV := .raw .none
def Is : Value → SV → Prop
  | v, .int i => ∃ t, v = .int i t
  | v, .str x => ∃ t, v = .str x t
  | v, .raw u => v = u
noncomputable def IsAll : List Value → List SV → Prop
  | [], [] => True
  | v :: vs, s :: ss => Is v s ∧ IsAll vs ss
  | _, _ => False
/-- what is fixed of a frame's function: its name, its scope, the names of its locals -/
structure Fn where
  (cn : Str) (cs : Scope) (nm : List Str) (frz : Option (Str → Option Value))
structure Cx where
  (w : World) (A : Around) (a : Addr) (ccd : Value) (cl : List (Str × Addr)) (outer : List Env) (A₀ : Around) (base h₀ : Heap) (L : Addr) (gens : Array GenState) (drawn : Drawn) (os : OsState) (mean : ExcName → Option Value) (mg mb : Map)
noncomputable abbrev Cx.env (c : Cx) (S : Fn) : Env := envX S.cn S.cs c.L c.a c.ccd c.cl
structure Fn.Ok (S : Fn) : Prop where
  kind : S.cs.kind = .function
  nd : S.nm.Nodup
  loc : ∀ x ∈ S.nm, S.cs.names.lookup x = some .local ∧ (x == Str.ofString "__debug__") = false
structure Ok (k : Nat) (c : Cx) (S : Fn) : Prop where
  handled : c.A.handled = none
  frames : c.A.frames = some (c.env S :: c.outer)
  B : Below c.A₀ c.base c.outer c.h₀
  X : (KF c.w).In c.h₀
  T : Top N70.hd.view_1 LW c.mean c.mg c.mb c.h₀
  room : c.A.depth + k < recursionLimit
  units : c.A.units + 8 * k < cLine
  fn : S.Ok
abbrev Vals := List (Option SV)
noncomputable def Slots : List Str → Vals → Map → Prop
  | x :: ns, some s :: vs, m => (∃ v, m x = some v ∧ Is v s) ∧ Slots ns vs m
  | _ :: ns, .none :: vs, m => Slots ns vs m
  | _, _, _ => True
/-- the locals as told; when frozen, they are just those -/
def SL (S : Fn) (vals : Vals) (m : Map) : Prop := Slots S.nm vals m ∧ ∀ m₀, S.frz = some m₀ → m = m₀
inductive Slot : List Str → Vals → Str → SV → Prop
  | hd {x ns s vs} : Slot (x :: ns) (some s :: vs) x s
  | tl {x y ns o vs s} (h : Slot ns vs x s) : Slot (y :: ns) (o :: vs) x s
inductive Put : List Str → Vals → Str → SV → Vals → Prop
  | hd {x ns o vs s} : Put (x :: ns) (o :: vs) x s (some s :: vs)
  | tl {x y ns o vs vs' s} (h : Put ns vs x s vs') : Put (y :: ns) (o :: vs) x s (o :: vs')
theorem Slot.get {ns vs x s m} (h : Slot ns vs x s) (hs : Slots ns vs m) : ∃ v, m x = some v ∧ Is v s := by
  induction h with
  | hd => exact hs.1
  | @tl x y ns o vs s h ih =>
    cases o with
    | none => exact ih hs
    | some o => exact ih hs.2
theorem Slot.mem {ns vs x s} (h : Slot ns vs x s) : x ∈ ns := by
  induction h with
  | hd => exact .head _
  | tl h ih => exact .tail _ ih
theorem Put.mem {ns vs x s vs'} (h : Put ns vs x s vs') : x ∈ ns := by
  induction h with
  | hd => exact .head _
  | tl h ih => exact .tail _ ih
theorem Slots.off {ns vs m} {x : Str} {v : Value} (hx : x ∉ ns) (hs : Slots ns vs m) : Slots ns vs (fun y => if y = x then some v else m y) := by
  induction ns generalizing vs with
  | nil => cases vs <;> trivial
  | cons y ns ih =>
    have h1 : y ≠ x := fun e => hx (e ▸ .head _)
    have h2 : x ∉ ns := fun e => hx (.tail _ e)
    cases vs with
    | nil => trivial
    | cons o vs =>
      cases o with
      | none => exact ih h2 hs
      | some o =>
        obtain ⟨⟨u, e, i⟩, r⟩ := hs
        exact ⟨⟨u, by simp only [if_neg h1]; exact e, i⟩, ih h2 r⟩
theorem Put.ok {ns vs x s vs' m v} (h : Put ns vs x s vs') (hn : ns.Nodup) (hs : Slots ns vs m) (hv : Is v s) : Slots ns vs' (fun y => if y = x then some v else m y) := by
  induction h with
  | @hd x ns o vs s =>
    have hx : x ∉ ns := (List.nodup_cons.mp hn).1
    refine ⟨⟨v, if_pos rfl, hv⟩, Slots.off hx ?_⟩
    cases o with
    | none => exact hs
    | some o => exact hs.2
  | @tl x y ns o vs vs' s h ih =>
    have hn' := List.nodup_cons.mp hn
    have hy : y ≠ x := fun e => hn'.1 (e ▸ h.mem)
    cases o with
    | none => exact ih hn'.2 hs hv
    | some o =>
      obtain ⟨⟨u, e, i⟩, r⟩ := hs
      exact ⟨⟨u, by simp only [if_neg hy]; exact e, i⟩, ih hn'.2 r hv⟩
/-- what is known of some objects -/
abbrev Asn := Led → Prop
noncomputable def Star : List Asn → Led → Prop
  | [], N => N = []
  | a :: H, N => ∃ N1 N2, N = N1 ++ N2 ∧ a N1 ∧ Star H N2
theorem Star.app : ∀ {H F : List Asn} {N : Led}, Star (H ++ F) N ↔ ∃ N1 N2, N = N1 ++ N2 ∧ Star H N1 ∧ Star F N2
  | [], F, N => ⟨fun h => ⟨[], N, rfl, rfl, h⟩, fun ⟨N1, N2, e, h1, h2⟩ => by
      have h1 : N1 = [] := h1
      subst h1; subst e; exact h2⟩
  | a :: H, F, N => by
    constructor
    · rintro ⟨N1, N2, rfl, h1, h2⟩
      obtain ⟨N3, N4, rfl, h3, h4⟩ := Star.app.mp h2
      exact ⟨N1 ++ N3, N4, (List.append_assoc ..).symm, ⟨N1, N3, rfl, h1, h3⟩, h4⟩
    · rintro ⟨N1, N2, rfl, ⟨N3, N4, rfl, h1, h2⟩, h3⟩
      exact ⟨N3, N4 ++ N2, List.append_assoc .., h1, Star.app.mpr ⟨N4, N2, rfl, h2, h3⟩⟩
/-- an assertion of the heap, and what stands when it is replaced -/
inductive At : List Asn → Asn → Prop
  | hd {a H} : At (a :: H) a
  | tl {a b H} (h : At H a) : At (b :: H) a
inductive Rp : Asn → Asn → List Asn → List Asn → Prop
  | hd {a a' H} : Rp a a' (a :: H) (a' :: H)
  | tl {a a' b H H'} (h : Rp a a' H H') : Rp a a' (b :: H) (b :: H')
inductive Sel : Asn → List Asn → List Asn → Prop
  | hd {a H} : Sel a (a :: H) H
  | tl {a b H H'} (h : Sel a H H') : Sel a (b :: H) (b :: H')
inductive Take : List Asn → List Asn → List Asn → Prop
  | nil {H} : Take [] H H
  | cons {a A H H1 R} (h : Sel a H H1) (t : Take A H1 R) : Take (a :: A) H R
theorem At.split {H : List Asn} {a : Asn} {N : Led} (h : At H a) (hs : Star H N) : ∃ X Y Z, N = X ++ (Y ++ Z) ∧ a Y := by
  induction h generalizing N with
  | hd =>
    obtain ⟨N1, N2, e, h1, h2⟩ := hs
    exact ⟨[], N1, N2, e, h1⟩
  | tl h ih =>
    obtain ⟨N1, N2, rfl, h1, h2⟩ := hs
    obtain ⟨X, Y, Z, rfl, h3⟩ := ih h2
    exact ⟨N1 ++ X, Y, Z, (List.append_assoc ..).symm, h3⟩
theorem Rp.split {a a' : Asn} {H H' : List Asn} {N : Led} (h : Rp a a' H H') (hs : Star H N) : ∃ X Y Z, N = X ++ (Y ++ Z) ∧ a Y ∧ ∀ Y', a' Y' → Star H' (X ++ (Y' ++ Z)) := by
  induction h generalizing N with
  | hd =>
    obtain ⟨N1, N2, e, h1, h2⟩ := hs
    exact ⟨[], N1, N2, e, h1, fun Y' h' => ⟨Y', N2, rfl, h', h2⟩⟩
  | tl h ih =>
    obtain ⟨N1, N2, rfl, h1, h2⟩ := hs
    obtain ⟨X, Y, Z, rfl, h3, h4⟩ := ih h2
    exact ⟨N1 ++ X, Y, Z, (List.append_assoc ..).symm, h3, fun Y' h' => ⟨N1, X ++ (Y' ++ Z), List.append_assoc .., h1, h4 Y' h'⟩⟩
theorem Sel.perm {a : Asn} {H H' : List Asn} (h : Sel a H H') : H.Perm (a :: H') := by
  induction h with
  | hd => exact .refl _
  | tl h ih => exact (ih.cons _).trans (.swap ..)
theorem Take.perm {A H R : List Asn} (h : Take A H R) : H.Perm (A ++ R) := by
  induction h with
  | nil => exact .refl _
  | cons h t ih => exact h.perm.trans (ih.cons _)
theorem Star.perm {H H' : List Asn} (p : H.Perm H') : ∀ {N : Led}, Star H N → ∃ N', N'.Perm N ∧ Star H' N' := by
  induction p with
  | nil => exact fun h => ⟨_, .refl _, h⟩
  | cons a p ih =>
    rintro N ⟨N1, N2, rfl, h1, h2⟩
    obtain ⟨N', p', h'⟩ := ih h2
    exact ⟨N1 ++ N', p'.append_left _, N1, N', rfl, h1, h'⟩
  | swap a b H =>
    rintro N ⟨N1, N2, rfl, h1, N3, N4, rfl, h3, h4⟩
    refine ⟨N3 ++ (N1 ++ N4), ?_, N3, N1 ++ N4, rfl, h3, N1, N4, rfl, h1, h4⟩
    rw [← List.append_assoc, ← List.append_assoc]
    exact List.perm_append_comm.append_right _
  | trans p1 p2 ih1 ih2 =>
    intro N h
    obtain ⟨N1, q1, h1⟩ := ih1 h
    obtain ⟨N2, q2, h2⟩ := ih2 h1
    exact ⟨N2, q2.trans q1, h2⟩
/-- the state is good: the frame, the locals, the heap's assertions -/
def good (c : Cx) (S : Fn) (s : Shared) (vals : Vals) (H : List Asn) : Prop :=
  ∃ h tk mv N, s = ⟨h, c.gens, c.drawn, tk, c.os⟩ ∧ Fr c.h₀ c.L h mv ∧ News c.h₀ c.L h N ∧ (N.map (·.1)).Nodup ∧ Star H N ∧ SL S vals mv
/-- t, run from a good state, gives some b with Q; what stands beside (F) stays -/
def J {α β : Type} (R : α → β → Prop) (k : Nat) (c : Cx) (S : Fn) (vals : Vals) (H : List Asn) (t : Sem α) (Q : β → Vals → List Asn → Prop) : Prop :=
  Ok k c S → ∀ (F : List Asn) (s : Shared), good c S s vals (H ++ F) → wpAny (model PR c.w) c.A t (fun a s' => ∃ b vals' H', R a b ∧ Q b vals' H' ∧ good c S s' vals' (H' ++ F)) (fun _ _ => False) s
abbrev JE := @J Value SV Is
abbrev JL := @J (List Value) (List SV) IsAll
abbrev JB := @J Bool Bool Eq
abbrev JU := @J Unit Unit Eq
inductive Fl where | next | cont | brk | ret (v : SV)
def FlIs : Flow → Fl → Prop
  | .next, .next => True
  | .cont, .cont => True
  | .brk, .brk => True
  | .ret v, .ret s => Is v s
  | _, _ => False
abbrev JF := @J Flow Fl FlIs
/-- a call of f with values of this kind -/
def JC (k : Nat) (c : Cx) (S : Fn) (vals : Vals) (H : List Asn) (f : Value) (svs : List SV) (Q : SV → Vals → List Asn → Prop) : Prop :=
  ∀ vs, IsAll vs svs → JE k c S vals H (call f vs) Q
section
variable {α β γ δ : Type} {R : α → β → Prop} {R' : γ → δ → Prop} {k : Nat} {c : Cx} {S : Fn} {vals : Vals} {H H' : List Asn} {t : Sem α} {Q Q' : β → Vals → List Asn → Prop}
theorem good.perm {s : Shared} (p : H.Perm H') (g : good c S s vals H) : good c S s vals H' := by
  obtain ⟨h, tk, mv, N, rfl, F, NN, nd, st, sl⟩ := g
  obtain ⟨N', q, st'⟩ := st.perm p
  exact ⟨h, tk, mv, N', rfl, F, fun x hx => NN x (q.mem_iff.mp hx), (q.map _).nodup_iff.mpr nd, st', sl⟩
theorem J.mono (h : J R k c S vals H t Q) (hq : ∀ b v' H', Q b v' H' → Q' b v' H') : J R k c S vals H t Q' := fun ok F s g =>
  wpAny_mono (h ok F s g) (fun a s' ⟨b, v', H', r, q, g'⟩ => ⟨b, v', H', r, hq _ _ _ q, g'⟩) fun _ _ x => x
theorem J.perm (p : H.Perm H') (h : J R k c S vals H' t Q) : J R k c S vals H t Q := fun ok F s g => h ok F s (g.perm (p.append_right _))
/-- the frame rule -/
theorem J.frame {G : List Asn} (h : J R k c S vals H t fun b v' H' => Q b v' (H' ++ G)) : J R k c S vals (H ++ G) t Q := fun ok F s g => by
  rw [List.append_assoc] at g
  refine wpAny_mono (h ok (G ++ F) s g) (fun a s' ⟨b, v', H', r, q, g'⟩ => ⟨b, v', H' ++ G, r, q, ?_⟩) fun _ _ x => x
  rw [List.append_assoc]; exact g'
theorem J.bind {f : α → Sem γ} {Q : δ → Vals → List Asn → Prop} (h : J R k c S vals H t fun b v' H' => ∀ a, R a b → J R' k c S v' H' (f a) Q) : J R' k c S vals H (t >>= f) Q := fun ok F s g =>
  wpAny_bind (wpAny_mono (h ok F s g) (fun a s' ⟨b, v', H', r, q, g'⟩ => q a r ok F s' g') fun _ _ x => x)
theorem J.done {a : α} {b : β} (r : R a b) (q : Q b vals H) : J R k c S vals H (Pure.pure a) Q := fun ok F s g => wpAny_pure ⟨b, vals, H, r, q, g⟩
theorem good.slots {s : Shared} {v' : Vals} (g : good c S s vals H) (hv : ∀ m, Slots S.nm vals m → Slots S.nm v' m) : good c S s v' H := by
  obtain ⟨h, tk, mv, N, rfl, F, NN, nd, st, sl⟩ := g
  exact ⟨h, tk, mv, N, rfl, F, NN, nd, st, hv _ sl.1, sl.2⟩
end
-- assertions of objects
def LI (l : Addr) (ns : List Int) : Asn := fun N => ∃ vs k, N = [(l, W.listOf (List.toArray vs) k)] ∧ IntsAre vs ns
abbrev tupO (vs : List Value) : Obj := { cls := .type "tuple", data := .seq vs.toArray }
def TP (t : Addr) (svs : List SV) : Asn := fun N => ∃ vs, N = [(t, tupO vs)] ∧ IsAll vs svs
def DE (d : Addr) : Asn := fun N => ∃ o ep, N = [(d, o)] ∧ (d == sysModules) = false ∧ o.ExactDict ∧ o.data = .dict #[] ep
noncomputable def Ents : List DictEntry → List (Str × SV) → Prop
  | [], [] => True
  | e :: es, (x, v) :: fs => (∃ t, e.key = .str x t) ∧ Is e.val v ∧ Ents es fs
  | _, _ => False
def OB (x C : Addr) (fs : List (Str × SV)) : Asn := fun N => ∃ d es, N = [(x, instObj C d), (d, dictOf es es.length)] ∧ Ents es fs ∧ (fs.map (·.1)).Nodup
inductive Fld : List (Str × SV) → Str → SV → Prop
  | hd {x v fs} : Fld ((x, v) :: fs) x v
  | tl {x v p fs} (h : Fld fs x v) : Fld (p :: fs) x v
inductive PutF : List (Str × SV) → Str → SV → List (Str × SV) → Prop
  | hd {x u v fs} : PutF ((x, u) :: fs) x v ((x, v) :: fs)
  | tl {x v p fs fs'} (h : PutF fs x v fs') : PutF (p :: fs) x v (p :: fs')
theorem isStr_str (x y : Str) (t : Tok) : (Value.str x t).isStr y = (x == y) := rfl
theorem Fld.mem {fs : List (Str × SV)} {x : Str} {v : SV} (h : Fld fs x v) : x ∈ fs.map (·.1) := by
  induction h with
  | hd => exact .head _
  | tl h ih => exact .tail _ ih
theorem PutF.mem {fs fs' : List (Str × SV)} {x : Str} {v : SV} (h : PutF fs x v fs') : x ∈ fs.map (·.1) := by
  induction h with
  | hd => exact .head _
  | tl h ih => exact .tail _ ih
theorem PutF.names {fs fs' : List (Str × SV)} {x : Str} {v : SV} (h : PutF fs x v fs') : fs'.map (·.1) = fs.map (·.1) := by
  induction h with
  | hd => rfl
  | tl h ih => simp only [List.map_cons, ih]
theorem Ents.noRef : ∀ {es : List DictEntry} {fs : List (Str × SV)}, Ents es fs → es.any (·.refKey) = false
  | [], [], _ => rfl
  | e :: es, (x, v) :: fs, ⟨⟨t, hk⟩, _, r⟩ => by
    rw [List.any_cons, Ents.noRef r, Bool.or_false]
    unfold DictEntry.refKey
    rw [hk]
  | [], _ :: _, h => h.elim
  | _ :: _, [], h => h.elim
theorem Ents.off : ∀ {es : List DictEntry} {fs : List (Str × SV)} {x : Str}, Ents es fs → x ∉ fs.map (·.1) → es.find? (·.key.isStr x) = none
  | [], _, _, _, _ => rfl
  | e :: es, (y, v) :: fs, x, ⟨⟨t, hk⟩, _, r⟩, hx => by
    have h1 : (y == x) = false := beq_eq_false_iff_ne.mpr fun q => hx (q ▸ .head _)
    rw [List.find?_cons, hk, isStr_str, h1]
    exact Ents.off r fun q => hx (.tail _ q)
  | _ :: _, [], _, h, _ => h.elim
theorem Ents.none {es : List DictEntry} {fs : List (Str × SV)} {x : Str} (h : Ents es fs) (hx : x ∉ fs.map (·.1)) : getL x es = some Option.none := by
  unfold getL
  rw [h.off hx, h.noRef]; rfl
theorem Ents.get {es : List DictEntry} {fs : List (Str × SV)} {x : Str} {v : SV} (h : Ents es fs) (hf : Fld fs x v) (hn : (fs.map (·.1)).Nodup) : ∃ u, getL x es = some (some u) ∧ Is u v := by
  induction hf generalizing es with
  | @hd x v fs =>
    match es, h with
    | e :: es, ⟨⟨t, hk⟩, hv, r⟩ =>
      refine ⟨e.val, ?_, hv⟩
      unfold getL
      rw [List.find?_cons, hk, isStr_str, beq_self_eq_true]
  | @tl x v p fs hf ih =>
    match es, p, h with
    | e :: es, (y, u), ⟨⟨t, hk⟩, hv, r⟩ =>
      have hn' := List.nodup_cons.mp hn
      have h1 : (y == x) = false := beq_eq_false_iff_ne.mpr fun q => hn'.1 (q ▸ hf.mem)
      obtain ⟨z, hz, iz⟩ := ih r hn'.2
      refine ⟨z, ?_, iz⟩
      unfold getL at hz ⊢
      rw [List.find?_cons, hk, isStr_str, h1]
      rw [List.any_cons]
      have h2 : e.refKey = false := by unfold DictEntry.refKey; rw [hk]
      rw [h2, Bool.false_or]
      exact hz
theorem Ents.put {es : List DictEntry} {fs fs' : List (Str × SV)} {x : Str} {v : SV} {u key : Value} {hsh : Int} (h : Ents es fs) (hf : PutF fs x v fs') (hn : (fs.map (·.1)).Nodup) (hu : Is u v) : Ents (putL x hsh key u es) fs' ∧ (putL x hsh key u es).length = es.length ∧ es.any (·.key.isStr x) = true := by
  induction hf generalizing es with
  | @hd x w v fs =>
    match es, h with
    | e :: es, ⟨⟨t, hk⟩, hv, r⟩ =>
      have h1 : e.key.isStr x = true := by rw [hk, isStr_str, beq_self_eq_true]
      unfold putL
      rw [if_pos h1]
      exact ⟨⟨⟨t, hk⟩, hu, r⟩, rfl, by rw [List.any_cons, h1]; rfl⟩
  | @tl x v p fs fs' hf ih =>
    match es, p, h with
    | e :: es, (y, w), ⟨⟨t, hk⟩, hv, r⟩ =>
      have hn' := List.nodup_cons.mp hn
      have h1 : (y == x) = false := beq_eq_false_iff_ne.mpr fun q => hn'.1 (q ▸ hf.mem)
      have h2 : e.key.isStr x = false := by rw [hk, isStr_str, h1]
      obtain ⟨a1, a2, a3⟩ := ih r hn'.2 hu
      unfold putL
      rw [if_neg (by rw [h2]; exact Bool.false_ne_true)]
      exact ⟨⟨⟨t, hk⟩, hv, a1⟩, by rw [List.length_cons, List.length_cons, a2], by rw [List.any_cons, a3, Bool.or_true]⟩
theorem Ents.new {es : List DictEntry} {fs : List (Str × SV)} {x : Str} {v : SV} {u : Value} {t : Tok} {hsh : Int} (h : Ents es fs) (hx : x ∉ fs.map (·.1)) (hu : Is u v) : Ents (putL x hsh (.str x t) u es) (fs ++ [(x, v)]) ∧ (putL x hsh (.str x t) u es).length = es.length + 1 ∧ es.any (·.key.isStr x) = false := by
  induction es generalizing fs with
  | nil =>
    cases fs with
    | nil => exact ⟨⟨⟨t, rfl⟩, hu, trivial⟩, rfl, rfl⟩
    | cons p fs => exact h.elim
  | cons e es ih =>
    match fs, h with
    | (y, w) :: fs, ⟨⟨t', hk⟩, hv, r⟩ =>
      have h1 : (y == x) = false := beq_eq_false_iff_ne.mpr fun q => hx (q ▸ .head _)
      have h2 : e.key.isStr x = false := by rw [hk, isStr_str, h1]
      obtain ⟨a1, a2, a3⟩ := ih r fun q => hx (.tail _ q)
      unfold putL
      rw [if_neg (by rw [h2]; exact Bool.false_ne_true)]
      exact ⟨⟨⟨t', hk⟩, hv, a1⟩, by rw [List.length_cons, List.length_cons, a2], by rw [List.any_cons, h2, a3]; rfl⟩
-- what stands in the program's written part
def GlobOk (x : Str) (v : Value) : Prop := ∀ w, nsIn (KF w) mainGlobals x = some (some v)
def BltOk (x : Str) (v : Value) : Prop := (∀ w, nsIn (KF w) mainGlobals x = some none) ∧ bootBuiltins x = some v ∧ x ≠ Str.ofString "__name__"
def KeepOk (v : Value) : Prop := ∀ w, keepIn (KF w) v = true
structure AttrOk (C : Addr) (x : Str) (attr : Option Value) : Prop where
  h1 : ∀ w, plainGet (KF w) C x = true
  h2 : ∀ w, hasDictIn (KF w) C = true
  h3 : ∀ w, findIn (KF w) (.ref C) x = some attr
  h4 : ∀ w, noGet (KF w) attr = true
structure SetOk (C : Addr) (x : Str) : Prop where
  h1 : ∀ w, findIn (KF w) (.ref C) (Str.ofString "__setattr__") = some (some (.builtin "object.__setattr__"))
  h2 : ∀ w, plainOver (KF w) C = true
  h3 : ∀ w, takerIn (KF w) C x = some none
  h4 : ∀ w, hasDictIn (KF w) C = true
structure MethOk (C : Addr) (x : Str) (f : Addr) : Prop where
  h1 : ∀ w, plainGet (KF w) C x = true
  h2 : ∀ w, findIn (KF w) (.ref C) x = some (some (.ref f))
  h3 : ∀ w, isFn (KF w) (.ref f) = true
  h4 : ∀ w, keepIn (KF w) (.ref f) = true
def GKind (S : Fn) (x : Str) : Prop := S.cs.names.lookup x = some .globalImplicit ∧ (x == Str.ofString "__debug__") = false
section
variable {k : Nat} {c : Cx} {S : Fn} {vals : Vals} {H H' : List Asn}
theorem good.tok {s : Shared} {n : Nat} (g : good c S s vals H) : good c S { s with toks := n } vals H := by
  obtain ⟨h, tk, mv, N, rfl, r⟩ := g
  exact ⟨h, n, mv, N, rfl, r⟩
/-- what one has in hand of a good state -/
theorem good.open_ {s : Shared} (g : good c S s vals H) : ∃ mv N, s = ⟨s.heap, c.gens, c.drawn, s.toks, c.os⟩ ∧ Fr c.h₀ c.L s.heap mv ∧ News c.h₀ c.L s.heap N ∧ (N.map (·.1)).Nodup ∧ Star H N ∧ SL S vals mv := by
  obtain ⟨h, tk, mv, N, rfl, r⟩ := g
  exact ⟨mv, N, rfl, r⟩
theorem good.mk {s : Shared} {h' : Heap} {tk : Nat} {mv : Map} {N : Led} (e : s = ⟨s.heap, c.gens, c.drawn, s.toks, c.os⟩) (F : Fr c.h₀ c.L h' mv) (NN : News c.h₀ c.L h' N) (nd : (N.map (·.1)).Nodup) (st : Star H N) (sl : SL S vals mv) : good c S { s with heap := h', toks := tk } vals H := by
  rw [e]; exact ⟨h', tk, mv, N, rfl, F, NN, nd, st, sl⟩
theorem good.new {s : Shared} {h' : Heap} {tk : Nat} {mv : Map} {N : Led} {a : Asn} {D : Addr} {o : Obj} (e : s = ⟨s.heap, c.gens, c.drawn, s.toks, c.os⟩) (F : Fr c.h₀ c.L h' mv) (NN : News c.h₀ c.L h' ((D, o) :: N)) (lt : ∀ p ∈ N, p.1 < D) (nd : (N.map (·.1)).Nodup) (st : Star H N) (sl : SL S vals mv) (ha : a [(D, o)]) : good c S { s with heap := h', toks := tk } vals (a :: H) :=
  .mk e F NN (List.nodup_cons.mpr ⟨fun q => by
    obtain ⟨p, hp, e'⟩ := List.mem_map.mp q
    have h1 : @LT.lt Nat _ p.1 D := lt p hp
    have h2 : @Eq Nat p.1 D := e'
    omega, nd⟩) ⟨[(D, o)], N, rfl, ha, st⟩ sl
-- names and constants
theorem J.name {x : Str} {pos : Pos} {v : SV} {Q : SV → Vals → List Asn → Prop} (hs : Slot S.nm vals x v) (q : Q v vals H) : JE k c S vals H (eval (.Name x pos) (c.env S)) Q := fun ok F s g => by
  obtain ⟨mv, N, e, Fm, NN, nd, st, sl⟩ := g.open_
  obtain ⟨u, e', i⟩ := hs.get sl.1
  exact nameX_L Fm e' ⟨v, vals, H, i, q, g⟩ ok.fn.kind (ok.fn.loc x hs.mem).1 (ok.fn.loc x hs.mem).2
theorem J.glob {x : Str} {pos : Pos} {v : Value} {sv : SV} {Q : SV → Vals → List Asn → Prop} (hk : GKind S x) (hg : GlobOk x v) (hv : Is v sv) (q : Q sv vals H) : JE k c S vals H (eval (.Name x pos) (c.env S)) Q := fun ok F s g => by
  obtain ⟨mv, N, e, Fm, NN, nd, st, sl⟩ := g.open_
  exact nameX_K Fm ok.X (topRead_of ok.T) (hg c.w) ⟨sv, vals, H, hv, q, g⟩ ok.fn.kind hk.1 hk.2
theorem J.blt {x : Str} {pos : Pos} {v : Value} {Q : SV → Vals → List Asn → Prop} (hk : GKind S x) (hg : BltOk x v) (q : Q (.raw v) vals H) : JE k c S vals H (eval (.Name x pos) (c.env S)) Q := fun ok F s g => by
  obtain ⟨mv, N, e, Fm, NN, nd, st, sl⟩ := g.open_
  exact nameX_B Fm ok.X (topRead_of ok.T) (hg.1 c.w) hg.2.1 hg.2.2 ⟨.raw v, vals, H, rfl, q, g⟩ ok.fn.kind hk.1 hk.2
theorem J.cint {i : Int} {n : Nat} {pos : Pos} {env : Env} {Q : SV → Vals → List Asn → Prop} (q : Q (.int i) vals H) : JE k c S vals H (eval (.Constant (.int i) n pos) env) Q := fun ok F s g => wpAny_Constant_int ⟨.int i, vals, H, ⟨_, rfl⟩, q, g.tok⟩
theorem J.cbool {b : Bool} {n : Nat} {pos : Pos} {env : Env} {Q : SV → Vals → List Asn → Prop} (q : Q (.bool b) vals H) : JE k c S vals H (eval (.Constant (.bool b) n pos) env) Q := fun ok F s g => Constant_bool ⟨.bool b, vals, H, rfl, q, g⟩
theorem J.cnone {n : Nat} {pos : Pos} {env : Env} {Q : SV → Vals → List Asn → Prop} (q : Q .none vals H) : JE k c S vals H (eval (.Constant .none n pos) env) Q := fun ok F s g => wpAny_Constant_none ⟨.none, vals, H, rfl, q, g⟩
theorem J.cstr {x : Str} {n : Nat} {pos : Pos} {env : Env} {Q : SV → Vals → List Asn → Prop} (q : Q (.str x) vals H) : JE k c S vals H (eval (.Constant (.str x) n pos) env) Q := fun ok F s g => Constant_str ⟨.str x, vals, H, ⟨_, rfl⟩, q, g.tok⟩
-- sums
def BinV (k : Nat) (c : Cx) (S : Fn) (vals : Vals) (H : List Asn) (op : Operator) (x y : SV) (Q : SV → Vals → List Asn → Prop) : Prop := ∀ a b, Is a x → Is b y → JE k c S vals H (binaryOp op a b) Q
theorem J.bin {l r : Expr} {op : Operator} {pos : Pos} {env : Env} {Q : SV → Vals → List Asn → Prop} (h : JE k c S vals H (eval l env) fun x v1 H1 => JE k c S v1 H1 (eval r env) fun y v2 H2 => BinV k c S v2 H2 op x y Q) : JE k c S vals H (eval (.BinOp l op r pos) env) Q := fun ok F s g =>
  wpAny_BinOp (wpAny_mono (h ok F s g) (fun a s1 ⟨x, v1, H1, ia, q, g1⟩ => wpAny_mono (q ok F s1 g1) (fun b s2 ⟨y, v2, H2, ib, q2, g2⟩ => q2 a b ia ib ok F s2 g2) fun _ _ x => x) fun _ _ x => x)
theorem BinV.add {x y : Int} {Q : SV → Vals → List Asn → Prop} (q : Q (.int (x + y)) vals H) : BinV k c S vals H .Add (.int x) (.int y) Q := by
  rintro a b ⟨t, rfl⟩ ⟨u, rfl⟩ ok F s g; exact add_int ⟨.int (x + y), vals, H, ⟨_, rfl⟩, q, g.tok⟩
theorem BinV.sub {x y : Int} {Q : SV → Vals → List Asn → Prop} (q : Q (.int (x - y)) vals H) : BinV k c S vals H .Sub (.int x) (.int y) Q := by
  rintro a b ⟨t, rfl⟩ ⟨u, rfl⟩ ok F s g; exact sub_int ⟨.int (x - y), vals, H, ⟨_, rfl⟩, q, g.tok⟩
theorem BinV.mod {x y : Int} {Q : SV → Vals → List Asn → Prop} (hy : 1 ≤ y) (q : ∀ v, 0 ≤ v → v < y → Q (.int v) vals H) : BinV k c S vals H .Mod (.int x) (.int y) Q := by
  rintro a b ⟨t, rfl⟩ ⟨u, rfl⟩ ok F s g; exact mod_int' (by omega) ⟨.int (Int.fmod x y), vals, H, ⟨_, rfl⟩, q _ (Int.fmod_nonneg_of_pos _ (by omega)) (Int.fmod_lt_of_pos _ (by omega)), g.tok⟩
theorem At.li {l : Addr} {ns : List Int} {N : Led} (h : At H (LI l ns)) {F : List Asn} (hs : Star (H ++ F) N) : ∃ vs n, (l, W.listOf (List.toArray vs) n) ∈ N ∧ IntsAre vs ns := by
  obtain ⟨N1, N2, rfl, h1, h2⟩ := Star.app.mp hs
  obtain ⟨X, Y, Z, rfl, vs, n, rfl, hi⟩ := h.split h1
  exact ⟨vs, n, by simp, hi⟩
theorem BinV.addL {x y : Addr} {ns ms : List Int} {Q : SV → Vals → List Asn → Prop} (hx : At H (LI x ns)) (hy : At H (LI y ms)) (hz : ns.length + ms.length ≤ 4000) (q : ∀ D, Q (.ref D) vals (LI D (ns ++ ms) :: H)) : BinV k c S vals H .Add (.ref x) (.ref y) Q := by
  rintro a b rfl rfl ok F s g
  obtain ⟨mv, N, e, Fm, NN, nd, st, sl⟩ := g.open_
  obtain ⟨vs, n, h1, i1⟩ := hx.li st
  obtain ⟨us, n', h2, i2⟩ := hy.li st
  exact kmk_add_ints Fm NN (News.isList NN h1) (News.isList NN h2) i1 i2 (fun D ws h' F' N' lt i => ⟨.ref D, vals, _, rfl, q D, good.new e F' N' lt nd st sl ⟨ws, 0, rfl, i⟩⟩) (by rw [sizeLine_eq]; omega)
theorem BinV.mulL {x : Addr} {ns : List Int} {y : Int} {Q : SV → Vals → List Asn → Prop} (hx : At H (LI x ns)) (h0 : 0 ≤ y) (hz : ns.length = 1 ∧ y ≤ 4000) (q : ∀ D, Q (.ref D) vals (LI D (List.replicate y.toNat (ns.getD 0 0)) :: H)) : BinV k c S vals H .Mult (.ref x) (.int y) Q := by
  rintro a b rfl ⟨t, rfl⟩ ok F s g
  obtain ⟨mv, N, e, Fm, NN, nd, st, sl⟩ := g.open_
  obtain ⟨vs, n, h1, i1⟩ := hx.li st
  have hl := i1.length
  refine KM.mul Fm NN (News.isList NN h1) i1 (by omega) (by omega) (by rw [hl, hz.1]; omega) fun D h' F' N' lt i _ _ _ _ _ => ⟨.ref D, vals, _, rfl, q D, good.new e F' N' lt nd st sl ⟨_, 0, rfl, ?_⟩⟩
  have e1 : ns = [ns.getD 0 0] := by
    match ns, hz.1 with
    | [z], _ => rfl
  rw [e1] at i
  have e2 : (List.replicate y.toNat [ns.getD 0 0]).flatten = List.replicate y.toNat (ns.getD 0 0) := by
    generalize y.toNat = m
    induction m with
    | zero => rfl
    | succ m ih => simp [List.replicate_succ, ih]
  rwa [e2] at i
end
section
variable {k : Nat} {c : Cx} {S : Fn} {vals : Vals} {H H' : List Asn}
abbrev QE := SV → Vals → List Asn → Prop
abbrev QT := Vals → List Asn → Prop
abbrev QF := Fl → Vals → List Asn → Prop
-- tests
def TQ (Qt Qf : QT) : Bool → Vals → List Asn → Prop
  | true => Qt
  | false => Qf
abbrev JT (k : Nat) (c : Cx) (S : Fn) (vals : Vals) (H : List Asn) (t : Sem Bool) (Qt Qf : QT) : Prop := JB k c S vals H t (TQ Qt Qf)
def TruT (k : Nat) (c : Cx) (S : Fn) (vals : Vals) (H : List Asn) (x : SV) (Qt Qf : QT) : Prop := ∀ a, Is a x → JT k c S vals H (truthy a) Qt Qf
def CmpV (k : Nat) (c : Cx) (S : Fn) (vals : Vals) (H : List Asn) (op : CmpOp) (x y : SV) (Q : QE) : Prop := ∀ a b, Is a x → Is b y → JE k c S vals H (compareOp op a b) Q
def CmpT (k : Nat) (c : Cx) (S : Fn) (vals : Vals) (H : List Asn) (op : CmpOp) (x y : SV) (Qt Qf : QT) : Prop := CmpV k c S vals H op x y fun z v1 H1 => TruT k c S v1 H1 z Qt Qf
theorem TruT.bool {b : Bool} {Qt Qf : QT} (h1 : b = true → Qt vals H) (h2 : b = false → Qf vals H) : TruT k c S vals H (.bool b) Qt Qf := by
  rintro a rfl ok F s g
  cases b with
  | true => exact wpAny_truthy_bool ⟨true, vals, H, rfl, h1 rfl, g⟩
  | false => exact wpAny_truthy_bool ⟨false, vals, H, rfl, h2 rfl, g⟩
theorem TruT.tt {Qt Qf : QT} (h : Qt vals H) : TruT k c S vals H (.bool true) Qt Qf := .bool (fun _ => h) fun e => nomatch e
theorem TruT.ff {Qt Qf : QT} (h : Qf vals H) : TruT k c S vals H (.bool false) Qt Qf := .bool (fun e => nomatch e) fun _ => h
theorem TruT.dec {p : Prop} [Decidable p] {Qt Qf : QT} (h1 : p → Qt vals H) (h2 : ¬ p → Qf vals H) : TruT k c S vals H (.bool (decide p)) Qt Qf :=
  .bool (fun e => h1 (of_decide_eq_true e)) fun e => h2 (of_decide_eq_false e)
section
variable {x y : Int} {Q : QE} {Qt Qf : QT}
theorem CmpV.lt (q : Q (.bool (decide (x < y))) vals H) : CmpV k c S vals H .Lt (.int x) (.int y) Q := by
  rintro a b ⟨t, rfl⟩ ⟨u, rfl⟩ ok F s g; exact lt_int ⟨.bool _, vals, H, rfl, q, g⟩
theorem CmpV.le (q : Q (.bool (decide (x ≤ y))) vals H) : CmpV k c S vals H .LtE (.int x) (.int y) Q := by
  rintro a b ⟨t, rfl⟩ ⟨u, rfl⟩ ok F s g; exact le_int ⟨.bool _, vals, H, rfl, q, g⟩
theorem CmpV.gt (q : Q (.bool (decide (y < x))) vals H) : CmpV k c S vals H .Gt (.int x) (.int y) Q := by
  rintro a b ⟨t, rfl⟩ ⟨u, rfl⟩ ok F s g; exact gt_int ⟨.bool _, vals, H, rfl, q, g⟩
theorem CmpV.ge (q : Q (.bool (decide (y ≤ x))) vals H) : CmpV k c S vals H .GtE (.int x) (.int y) Q := by
  rintro a b ⟨t, rfl⟩ ⟨u, rfl⟩ ok F s g; exact ge_int ⟨.bool _, vals, H, rfl, q, g⟩
theorem CmpV.eq (q : Q (.bool (decide (x = y))) vals H) : CmpV k c S vals H .Eq (.int x) (.int y) Q := by
  rintro a b ⟨t, rfl⟩ ⟨u, rfl⟩ ok F s g
  refine eq_int ⟨.bool _, vals, H, rfl, ?_, g⟩
  rwa [show (x == y) = decide (x = y) from rfl]
theorem CmpV.ne (q : Q (.bool (!decide (x = y))) vals H) : CmpV k c S vals H .NotEq (.int x) (.int y) Q := by
  rintro a b ⟨t, rfl⟩ ⟨u, rfl⟩ ok F s g
  exact ne_int ⟨.bool _, vals, H, rfl, q, g⟩
theorem TruT.ndec {p : Prop} [Decidable p] (h1 : ¬ p → Qt vals H) (h2 : p → Qf vals H) : TruT k c S vals H (.bool (!decide p)) Qt Qf := by
  refine .bool (fun e => h1 ?_) fun e => h2 ?_
  · simpa using e
  · simpa using e
theorem CmpT.lt (h1 : x < y → Qt vals H) (h2 : ¬ x < y → Qf vals H) : CmpT k c S vals H .Lt (.int x) (.int y) Qt Qf := CmpV.lt (.dec h1 h2)
theorem CmpT.le (h1 : x ≤ y → Qt vals H) (h2 : ¬ x ≤ y → Qf vals H) : CmpT k c S vals H .LtE (.int x) (.int y) Qt Qf := CmpV.le (.dec h1 h2)
theorem CmpT.gt (h1 : y < x → Qt vals H) (h2 : ¬ y < x → Qf vals H) : CmpT k c S vals H .Gt (.int x) (.int y) Qt Qf := CmpV.gt (.dec h1 h2)
theorem CmpT.ge (h1 : y ≤ x → Qt vals H) (h2 : ¬ y ≤ x → Qf vals H) : CmpT k c S vals H .GtE (.int x) (.int y) Qt Qf := CmpV.ge (.dec h1 h2)
theorem CmpT.eq (h1 : x = y → Qt vals H) (h2 : ¬ x = y → Qf vals H) : CmpT k c S vals H .Eq (.int x) (.int y) Qt Qf := CmpV.eq (.dec h1 h2)
theorem CmpT.ne (h1 : ¬ x = y → Qt vals H) (h2 : x = y → Qf vals H) : CmpT k c S vals H .NotEq (.int x) (.int y) Qt Qf := CmpV.ne (.ndec h1 h2)
theorem CmpV.eqB {x y : Bool} (q : Q (.bool (x == y)) vals H) : CmpV k c S vals H .Eq (.bool x) (.bool y) Q := by
  rintro a b rfl rfl ok F s g; exact eq_bool ⟨.bool _, vals, H, rfl, q, g⟩
theorem CmpV.neB {x y : Bool} (q : Q (.bool (x != y)) vals H) : CmpV k c S vals H .NotEq (.bool x) (.bool y) Q := by
  rintro a b rfl rfl ok F s g; exact PyProof.Rows.ne_bool ⟨.bool _, vals, H, rfl, q, g⟩
theorem CmpT.eqB {x y : Bool} (h1 : x = y → Qt vals H) (h2 : ¬ x = y → Qf vals H) : CmpT k c S vals H .Eq (.bool x) (.bool y) Qt Qf :=
  CmpV.eqB (.bool (fun e => h1 (by simpa using e)) fun e => h2 (by simpa using e))
theorem CmpT.neB {x y : Bool} (h1 : ¬ x = y → Qt vals H) (h2 : x = y → Qf vals H) : CmpT k c S vals H .NotEq (.bool x) (.bool y) Qt Qf :=
  CmpV.neB (.bool (fun e => h1 (by simpa using e)) fun e => h2 (by simpa using e))
theorem CmpV.isnN (q : Q (.bool false) vals H) : CmpV k c S vals H .IsNot .none .none Q := by
  rintro a b rfl rfl ok F s g; exact isnot_none_none ⟨.bool _, vals, H, rfl, q, g⟩
theorem CmpV.isnR {o : Addr} (q : Q (.bool true) vals H) : CmpV k c S vals H .IsNot (.ref o) .none Q := by
  rintro a b rfl rfl ok F s g; exact isnot_ref_none ⟨.bool _, vals, H, rfl, q, g⟩
theorem CmpT.isnN (h : Qf vals H) : CmpT k c S vals H .IsNot .none .none Qt Qf := CmpV.isnN (.ff h)
theorem CmpT.isnR {o : Addr} (h : Qt vals H) : CmpT k c S vals H .IsNot (.ref o) .none Qt Qf := CmpV.isnR (.tt h)
theorem CmpV.eqL {l m : Addr} {ns ms : List Int} (hx : At H (LI l ns)) (hy : At H (LI m ms)) (hk : 9 ≤ k) (q : Q (.bool (decide (ns = ms))) vals H) : CmpV k c S vals H .Eq (.ref l) (.ref m) Q := by
  rintro a b rfl rfl ok F s g
  obtain ⟨mv, N, e, Fm, NN, nd, st, sl⟩ := g.open_
  obtain ⟨vs, n, h1, i1⟩ := hx.li st
  obtain ⟨us, n', h2, i2⟩ := hy.li st
  exact eq_intsK (News.isList NN h1) i1 (News.isList NN h2) i2 (by have := ok.units; omega) ⟨.bool _, vals, H, rfl, q, g⟩
theorem CmpV.neL {l m : Addr} {ns ms : List Int} (hx : At H (LI l ns)) (hy : At H (LI m ms)) (hk : 9 ≤ k) (q : Q (.bool (!decide (ns = ms))) vals H) : CmpV k c S vals H .NotEq (.ref l) (.ref m) Q := by
  rintro a b rfl rfl ok F s g
  obtain ⟨mv, N, e, Fm, NN, nd, st, sl⟩ := g.open_
  obtain ⟨vs, n, h1, i1⟩ := hx.li st
  obtain ⟨us, n', h2, i2⟩ := hy.li st
  exact ke_ne_ints (News.isList NN h1) (News.isList NN h2) i1 i2 (by have := ok.units; omega) ⟨.bool _, vals, H, rfl, q, g⟩
theorem CmpT.eqL {l m : Addr} {ns ms : List Int} (hx : At H (LI l ns)) (hy : At H (LI m ms)) (hk : 9 ≤ k) (h1 : ns = ms → Qt vals H) (h2 : ¬ ns = ms → Qf vals H) : CmpT k c S vals H .Eq (.ref l) (.ref m) Qt Qf := CmpV.eqL hx hy hk (.dec h1 h2)
theorem CmpT.neL {l m : Addr} {ns ms : List Int} (hx : At H (LI l ns)) (hy : At H (LI m ms)) (hk : 9 ≤ k) (h1 : ¬ ns = ms → Qt vals H) (h2 : ns = ms → Qf vals H) : CmpT k c S vals H .NotEq (.ref l) (.ref m) Qt Qf := CmpV.neL hx hy hk (.ndec h1 h2)
end
section
variable {env : Env} {Q : QE} {Qt Qf : QT}
theorem J.cmp {l r : Expr} {op : CmpOp} {pos : Pos} (h : JE k c S vals H (eval l env) fun x v1 H1 => JE k c S v1 H1 (eval r env) fun y v2 H2 => CmpV k c S v2 H2 op x y Q) (hm : behindInMarks op r = false := by rfl) : JE k c S vals H (eval (.Compare l [op] [r] pos) env) Q := fun ok F s g =>
  wpAny_Compare1 (wpAny_mono (h ok F s g) (fun a s1 ⟨x, v1, H1, ia, q, g1⟩ => wpAny_mono (q ok F s1 g1) (fun b s2 ⟨y, v2, H2, ib, q2, g2⟩ => q2 a b ia ib ok F s2 g2) fun _ _ x => x) fun _ _ x => x) hm
theorem JT.cmp {l r : Expr} {op : CmpOp} {pos : Pos} {w : Sem Value} (h : JE k c S vals H (eval l env) fun x v1 H1 => JE k c S v1 H1 (eval r env) fun y v2 H2 => CmpT k c S v2 H2 op x y Qt Qf) (hm : behindInMarks op r = false := by rfl) : JT k c S vals H (PySem.isTrue (.Compare l [op] [r] pos) env w) Qt Qf := fun ok F s g =>
  wpAny_isTrue_Compare1 (wpAny_mono (h ok F s g) (fun a s1 ⟨x, v1, H1, ia, q, g1⟩ => wpAny_mono (q ok F s1 g1) (fun b s2 ⟨y, v2, H2, ib, q2, g2⟩ => wpAny_mono (q2 a b ia ib ok F s2 g2) (fun z s3 ⟨z', v3, H3, iz, q3, g3⟩ => q3 z iz ok F s3 g3) fun _ _ x => x) fun _ _ x => x) fun _ _ x => x) hm
theorem JT.and {x : Expr} {rest : List Expr} {pos : Pos} {w : Sem Value} (h : JT k c S vals H (PySem.isTrue x env (eval x env)) (fun v1 H1 => JT k c S v1 H1 (PySem.isTrue (.BoolOp .And rest pos) env w) Qt Qf) Qf) : JT k c S vals H (PySem.isTrue (.BoolOp .And (x :: rest) pos) env w) Qt Qf := fun ok F s g =>
  isTrue_and (wpAny_mono (h ok F s g) (fun a s1 ⟨b, v1, H1, e, q, g1⟩ => by
    subst e
    cases a with
    | true => exact q ok F s1 g1
    | false => exact ⟨false, v1, H1, rfl, q, g1⟩) fun _ _ x => x)
theorem JT.and0 {pos : Pos} {w : Sem Value} (h : Qt vals H) : JT k c S vals H (PySem.isTrue (.BoolOp .And [] pos) env w) Qt Qf := fun ok F s g => isTrue_and_nil ⟨true, vals, H, rfl, h, g⟩
theorem JT.or {x : Expr} {rest : List Expr} {pos : Pos} {w : Sem Value} (h : JT k c S vals H (PySem.isTrue x env (eval x env)) Qt (fun v1 H1 => JT k c S v1 H1 (PySem.isTrue (.BoolOp .Or rest pos) env w) Qt Qf)) : JT k c S vals H (PySem.isTrue (.BoolOp .Or (x :: rest) pos) env w) Qt Qf := fun ok F s g =>
  isTrue_or (wpAny_mono (h ok F s g) (fun a s1 ⟨b, v1, H1, e, q, g1⟩ => by
    subst e
    cases a with
    | true => exact ⟨true, v1, H1, rfl, q, g1⟩
    | false => exact q ok F s1 g1) fun _ _ x => x)
theorem JT.or0 {pos : Pos} {w : Sem Value} (h : Qf vals H) : JT k c S vals H (PySem.isTrue (.BoolOp .Or [] pos) env w) Qt Qf := fun ok F s g => isTrue_or_nil ⟨false, vals, H, rfl, h, g⟩
theorem JT.not {x : Expr} {pos : Pos} {w : Sem Value} (h : JT k c S vals H (PySem.isTrue x env (eval x env)) Qf Qt) : JT k c S vals H (PySem.isTrue (.UnaryOp .Not x pos) env w) Qt Qf := fun ok F s g =>
  isTrue_not (wpAny_mono (h ok F s g) (fun a s1 ⟨b, v1, H1, e, q, g1⟩ => by
    subst e
    cases a with
    | true => exact ⟨false, v1, H1, rfl, q, g1⟩
    | false => exact ⟨true, v1, H1, rfl, q, g1⟩) fun _ _ x => x)
theorem JT.plain {e : Expr} (h : JE k c S vals H (eval e env) fun x v1 H1 => TruT k c S v1 H1 x Qt Qf) (hp : PySem.isTrue e env (eval e env) = (do let v ← eval e env; standAt e.pos; holding [v] (truthy v)) := by rfl) : JT k c S vals H (PySem.isTrue e env (eval e env)) Qt Qf := fun ok F s g =>
  isTrue_plain (wpAny_mono (h ok F s g) (fun a s1 ⟨x, v1, H1, ia, q, g1⟩ => q a ia ok F s1 g1) fun _ _ x => x) hp
theorem JT.chain {l r1 r2 : Expr} {o1 o2 : CmpOp} {pos : Pos} {w : Sem Value} (h : JE k c S vals H (eval l env) fun x v1 H1 => JE k c S v1 H1 (eval r1 env) fun y v2 H2 => CmpT k c S v2 H2 o1 x y (fun v3 H3 => JE k c S v3 H3 (eval r2 env) fun z v4 H4 => CmpT k c S v4 H4 o2 y z Qt Qf) Qf)
    (hm : lastMarks [o1, o2] [r1, r2] = false := by rfl) : JT k c S vals H (PySem.isTrue (.Compare l [o1, o2] [r1, r2] pos) env w) Qt Qf := fun ok F s g => by
  refine isTrue_chain (wpAny_mono (h ok F s g) (fun a s1 ⟨x, v1, H1, ia, q, g1⟩ => ?_) fun _ _ x => x) hm
  refine test_link (wpAny_mono (q ok F s1 g1) (fun b s2 ⟨y, v2, H2, ib, q2, g2⟩ => ?_) fun _ _ x => x)
  refine wpAny_mono (q2 a b ia ib ok F s2 g2) (fun z s3 ⟨z', v3, H3, iz, q3, g3⟩ => ?_) fun _ _ x => x
  refine wpAny_mono (q3 z iz ok F s3 g3) (fun t s4 ⟨t', v4, H4, e, q4, g4⟩ => ?_) fun _ _ x => x
  subst e
  cases t with
  | false => exact ⟨false, v4, H4, rfl, q4, g4⟩
  | true =>
    refine test_last (wpAny_mono (q4 ok F s4 g4) (fun b' s5 ⟨y', v5, H5, ib', q5, g5⟩ => ?_) fun _ _ x => x)
    exact wpAny_mono (q5 b b' ib ib' ok F s5 g5) (fun z s6 ⟨z', v6, H6, iz, q6, g6⟩ => q6 z iz ok F s6 g6) fun _ _ x => x
theorem J.ifexp {t a b : Expr} {pos : Pos} (h : JT k c S vals H (PySem.isTrue t env (eval t env)) (fun v1 H1 => JE k c S v1 H1 (eval a env) Q) (fun v1 H1 => JE k c S v1 H1 (eval b env) Q)) : JE k c S vals H (eval (.IfExp t a b pos) env) Q := fun ok F s g =>
  IfExp_ (wpAny_mono (h ok F s g) (fun x s1 ⟨y, v1, H1, e, q, g1⟩ => by
    subst e
    cases x with
    | true => exact q ok F s1 g1
    | false => exact q ok F s1 g1) fun _ _ x => x)
-- bool operators as values: of bools
theorem J.and1 {e : Expr} {pos : Pos} (h : JE k c S vals H (eval e env) Q) : JE k c S vals H (eval (.BoolOp .And [e] pos) env) Q := fun ok F s g => BoolOp_one (h ok F s g)
theorem J.or1 {e : Expr} {pos : Pos} (h : JE k c S vals H (eval e env) Q) : JE k c S vals H (eval (.BoolOp .Or [e] pos) env) Q := fun ok F s g => BoolOp_one (h ok F s g)
theorem J.and2 {e1 e2 : Expr} {rest : List Expr} {pos : Pos} (h : JE k c S vals H (eval e1 env) fun x v1 H1 => TruT k c S v1 H1 x (fun v2 H2 => JE k c S v2 H2 (eval (.BoolOp .And (e2 :: rest) pos) env) Q) (Q x)) : JE k c S vals H (eval (.BoolOp .And (e1 :: e2 :: rest) pos) env) Q := fun ok F s g =>
  BoolOp_and (wpAny_mono (h ok F s g) (fun a s1 ⟨x, v1, H1, ia, q, g1⟩ => wpAny_mono (q a ia ok F s1 g1) (fun b s2 ⟨b', v2, H2, e, q2, g2⟩ => by
    subst e
    cases b with
    | true => exact q2 ok F s2 g2
    | false => exact ⟨x, v2, H2, ia, q2, g2⟩) fun _ _ x => x) fun _ _ x => x)
theorem J.or2 {e1 e2 : Expr} {rest : List Expr} {pos : Pos} (h : JE k c S vals H (eval e1 env) fun x v1 H1 => TruT k c S v1 H1 x (Q x) (fun v2 H2 => JE k c S v2 H2 (eval (.BoolOp .Or (e2 :: rest) pos) env) Q)) : JE k c S vals H (eval (.BoolOp .Or (e1 :: e2 :: rest) pos) env) Q := fun ok F s g =>
  BoolOp_or (wpAny_mono (h ok F s g) (fun a s1 ⟨x, v1, H1, ia, q, g1⟩ => wpAny_mono (q a ia ok F s1 g1) (fun b s2 ⟨b', v2, H2, e, q2, g2⟩ => by
    subst e
    cases b with
    | true => exact ⟨x, v2, H2, ia, q2, g2⟩
    | false => exact q2 ok F s2 g2) fun _ _ x => x) fun _ _ x => x)
end
-- statements
section
variable {env : Env} {Q : QF}
def Seq (k : Nat) (c : Cx) (S : Fn) (env : Env) (rest : List Stmt) (Q : QF) : QF
  | .next, v, H => JF k c S v H (execs rest env) Q
  | f, v, H => Q f v H
theorem J.nil (h : Q .next vals H) : JF k c S vals H (execs [] env) Q := fun ok F s g => wpAny_execs_nil ⟨.next, vals, H, trivial, h, g⟩
theorem J.cons {st : Stmt} {rest : List Stmt} (h : JF k c S vals H (exec st env) (Seq k c S env rest Q)) : JF k c S vals H (execs (st :: rest) env) Q := fun ok F s g =>
  wpAny_execs_cons (wpAny_mono (h ok F s g) (fun f s1 ⟨b, v1, H1, e, q, g1⟩ => by
    cases f with
    | next =>
      cases b with
      | next => exact q ok F s1 g1
      | _ => exact e.elim
    | brk =>
      cases b with
      | brk => exact ⟨.brk, v1, H1, e, q, g1⟩
      | _ => exact e.elim
    | cont =>
      cases b with
      | cont => exact ⟨.cont, v1, H1, e, q, g1⟩
      | _ => exact e.elim
    | ret v =>
      cases b with
      | ret u => exact ⟨.ret u, v1, H1, e, q, g1⟩
      | _ => exact e.elim) fun _ _ x => x)
theorem J.last {st : Stmt} (h : JF k c S vals H (exec st env) Q) : JF k c S vals H (execs [st] env) Q := J.cons (J.mono h fun b v1 H1 q => by
  cases b with
  | next => exact J.nil q
  | _ => exact q)
theorem J.ret {e : Expr} {pos : Pos} {rest : List Stmt} (h : JE k c S vals H (eval e env) fun x v1 H1 => Q (.ret x) v1 H1) : JF k c S vals H (execs (.Return (some e) pos :: rest) env) Q := J.cons fun ok F s g =>
  wpAny_Return_some (wpAny_mono (h ok F s g) (fun a s1 ⟨x, v1, H1, ia, q, g1⟩ => ⟨.ret x, v1, H1, ia, q, g1⟩) fun _ _ x => x)
theorem J.ret0 {pos : Pos} {rest : List Stmt} (h : Q (.ret .none) vals H) : JF k c S vals H (execs (.Return none pos :: rest) env) Q := J.cons fun ok F s g => wpAny_Return_none ⟨.ret .none, vals, H, rfl, h, g⟩
theorem J.cont {pos : Pos} {rest : List Stmt} (h : Q .cont vals H) : JF k c S vals H (execs (.Continue pos :: rest) env) Q := J.cons fun ok F s g => wpAny_Continue ⟨.cont, vals, H, trivial, h, g⟩
theorem J.ifx {t : Expr} {a b : List Stmt} {pos : Pos} (h : JT k c S vals H (PySem.isTrue t env (eval t env)) (fun v1 H1 => JF k c S v1 H1 (execs a env) Q) (fun v1 H1 => JF k c S v1 H1 (execs b env) Q)) : JF k c S vals H (exec (.If t a b pos) env) Q := fun ok F s g =>
  wpAny_If (wpAny_mono (h ok F s g) (fun x s1 ⟨y, v1, H1, e, q, g1⟩ => by
    subst e
    cases x with
    | true => exact q ok F s1 g1
    | false => exact q ok F s1 g1) fun _ _ x => x)
theorem J.if_ {t : Expr} {a b : List Stmt} {pos : Pos} {rest : List Stmt} (h : JT k c S vals H (PySem.isTrue t env (eval t env)) (fun v1 H1 => JF k c S v1 H1 (execs a env) (Seq k c S env rest Q)) (fun v1 H1 => JF k c S v1 H1 (execs b env) (Seq k c S env rest Q))) : JF k c S vals H (execs (.If t a b pos :: rest) env) Q := J.cons (J.ifx h)
theorem J.iflast {t : Expr} {a b : List Stmt} {pos : Pos} (h : JT k c S vals H (PySem.isTrue t env (eval t env)) (fun v1 H1 => JF k c S v1 H1 (execs a env) Q) (fun v1 H1 => JF k c S v1 H1 (execs b env) Q)) : JF k c S vals H (execs [.If t a b pos] env) Q := J.last (J.ifx h)
/-- an if without an else -/
theorem J.if1 {t : Expr} {a : List Stmt} {pos : Pos} {rest : List Stmt} (h : JT k c S vals H (PySem.isTrue t env (eval t env)) (fun v1 H1 => JF k c S v1 H1 (execs a env) (Seq k c S env rest Q)) (fun v1 H1 => JF k c S v1 H1 (execs rest env) Q)) : JF k c S vals H (execs (.If t a [] pos :: rest) env) Q := J.if_ (J.mono h fun b v1 H1 q => by
  cases b with
  | true => exact q
  | false => exact J.nil q)
theorem J.expr {e : Expr} {pos : Pos} {rest : List Stmt} (h : JE k c S vals H (eval e env) fun _ v1 H1 => JF k c S v1 H1 (execs rest env) Q) (h1 : interactive env = false := by rfl) (h2 : swapsWith e none pos.line env = pure false := by rfl) : JF k c S vals H (execs (.Expr e pos :: rest) env) Q := J.cons fun ok F s g =>
  wpAny_Expr_any (wpAny_mono (h ok F s g) (fun a s1 ⟨x, v1, H1, ia, q, g1⟩ => ⟨.next, v1, H1, trivial, q, g1⟩) fun _ _ x => x) h1 h2
/-- store a name -/
theorem good.store {x : Str} {v : Value} {u : SV} {vals' : Vals} (hz : S.frz = none) (hp : Put S.nm vals x u vals') (hv : Is v u) {Q : Vals → List Asn → Prop} (q : Q vals' H) : JU k c S vals H (storeName (c.env S) x v) fun _ v1 H1 => Q v1 H1 := fun ok F s g => by
  obtain ⟨mv, N, e, Fm, NN, nd, st, sl⟩ := g.open_
  exact storeX_L Fm NN (fun h' F' N' => ⟨(), vals', H, rfl, q, good.mk e F' N' nd st ⟨hp.ok ok.fn.nd sl.1 hv, fun _ e => nomatch hz.symm.trans e⟩⟩) ok.fn.kind (ok.fn.loc x hp.mem).1
/-- what a store of a name does -/
def StoN (S : Fn) (vals : Vals) (x : Str) (u : SV) (Q : Vals → Prop) : Prop := ∃ vals', Put S.nm vals x u vals' ∧ Q vals'
theorem StoN.mk {x : Str} {u : SV} {vals' : Vals} {Q : Vals → Prop} (hp : Put S.nm vals x u vals') (q : Q vals') : StoN S vals x u Q := ⟨vals', hp, q⟩
theorem J.asg {x : Str} {e : Expr} {p pos : Pos} {rest : List Stmt} (h : JE k c S vals H (eval e (c.env S)) fun u v1 H1 => StoN S v1 x u fun v2 => JF k c S v2 H1 (execs rest (c.env S)) Q) (hs : swapsWith e (some (.Name x p)) pos.line (c.env S) = pure false := by rfl) (hz : S.frz = none := by rfl) : JF k c S vals H (execs (.Assign [.Name x p] e pos :: rest) (c.env S)) Q := J.cons fun ok F s g =>
  wpAny_Assign_Name (wpAny_mono (h ok F s g) (fun a s1 ⟨u, v1, H1, ia, ⟨v2, hp, q⟩, g1⟩ => wpAny_mono (good.store (Q := fun v1 H1 => JF k c S v1 H1 (execs rest (c.env S)) Q) hz hp ia q ok F s1 g1) (fun _ s2 ⟨_, v3, H3, _, q3, g3⟩ => ⟨.next, v3, H3, trivial, q3, g3⟩) fun _ _ x => x) fun _ _ x => x) hs
end
end
theorem upd_mid {d : Addr} {o o' : Obj} : ∀ {A B : Led}, ((A ++ (d, o) :: B).map (·.1)).Nodup → Upd d o o' (A ++ (d, o) :: B) (A ++ (d, o') :: B)
  | [], B, h => .head fun p hp e => (List.nodup_cons.mp h).1 (List.mem_map.mpr ⟨p, hp, e⟩)
  | q :: A, B, h => by
    have h' := List.nodup_cons.mp h
    exact .tail (fun e => h'.1 (List.mem_map.mpr ⟨(d, o), List.mem_append.mpr (.inr (.head _)), e.symm⟩)) (upd_mid h'.2)
theorem nodup_mid {d : Addr} {o o' : Obj} {A B : Led} (h : ((A ++ (d, o) :: B).map (·.1)).Nodup) : ((A ++ (d, o') :: B).map (·.1)).Nodup := by
  simpa only [List.map_append, List.map_cons] using h
theorem Ents.len : ∀ {es : List DictEntry} {fs : List (Str × SV)}, Ents es fs → es.length = fs.length
  | [], [], _ => rfl
  | e :: es, (y, w) :: fs, ⟨_, _, r⟩ => congrArg Nat.succ (Ents.len r)
  | [], _ :: _, h => h.elim
  | _ :: _, [], h => h.elim
theorem Ents.some {es : List DictEntry} {fs : List (Str × SV)} {n : Str} (i : Ents es fs) : (getL n es).isSome = true := by
  unfold getL
  rw [i.noRef]
  cases es.find? (·.key.isStr n) <;> rfl
theorem IsAll.ints : ∀ {as : List Value} {ns : List Int}, IsAll as (ns.map SV.int) → IntsAre as ns
  | [], [], _ => .nil
  | a :: as, n :: ns, ⟨⟨t, e⟩, r⟩ => e ▸ .cons _ _ (IsAll.ints r)
  | [], _ :: _, h => h.elim
  | _ :: _, [], h => h.elim
theorem IsAll.len : ∀ {as : List Value} {xs : List SV}, IsAll as xs → as.length = xs.length
  | [], [], _ => rfl
  | a :: as, x :: xs, ⟨_, r⟩ => congrArg Nat.succ (IsAll.len r)
  | [], _ :: _, h => h.elim
  | _ :: _, [], h => h.elim
section
variable {k : Nat} {c : Cx} {S : Fn} {vals : Vals} {H H' : List Asn}
def SV.handed : SV → Bool
  | .raw (.builtin _) => false
  | _ => true
theorem SV.handed_of {v : SV} {u : Value} (h : v.handed = true) (i : Is u v) : handedIn u = true := by
  cases v with
  | int i' => obtain ⟨t, rfl⟩ := i; rfl
  | str x => obtain ⟨t, rfl⟩ := i; rfl
  | raw w =>
    have i : u = w := i
    subst i
    cases u with
    | builtin b => cases h
    | _ => rfl
theorem At.ob {x C : Addr} {fs : List (Str × SV)} {N : Led} (h : At H (OB x C fs)) {F : List Asn} (hs : Star (H ++ F) N) : ∃ d es, (x, instObj C d) ∈ N ∧ (d, dictOf es es.length) ∈ N ∧ Ents es fs ∧ (fs.map (·.1)).Nodup := by
  obtain ⟨N1, N2, rfl, h1, h2⟩ := Star.app.mp hs
  obtain ⟨X, Y, Z, rfl, d, es, rfl, hi, hn⟩ := h.split h1
  exact ⟨d, es, by simp, by simp, hi, hn⟩
-- attributes
def GetV (k : Nat) (c : Cx) (S : Fn) (vals : Vals) (H : List Asn) (x : SV) (n : Str) (Q : QE) : Prop := ∀ a, Is a x → JE k c S vals H (getAttr a n true) Q
theorem GetV.own {x C : Addr} {fs : List (Str × SV)} {n : Str} {v : SV} {Q : QE} (ha : At H (OB x C fs)) (hf : Fld fs n v) (hc : AttrOk C n none) (q : Q v vals H) (hv : v.handed = true := by rfl) : GetV k c S vals H (.ref x) n Q := by
  rintro a rfl ok F s g
  obtain ⟨mv, N, e, Fm, NN, nd, st, sl⟩ := g.open_
  obtain ⟨d, es, h1, h2, i, hn⟩ := ha.ob st
  obtain ⟨u, hu, iu⟩ := i.get hf hn
  exact get_own Fm ok.X (InstAt.of_news NN h1 h2) (hc.h1 _) (hc.h2 _) (hc.h3 _) (hc.h4 _) hu (SV.handed_of hv iu) ⟨v, vals, H, iu, q, g.tok⟩
theorem J.attr {o : Str} {n : Str} {p pos : Pos} {Q : QE} (h : JE k c S vals H (eval (.Name o p) (c.env S)) fun x v1 H1 => GetV k c S v1 H1 x n Q)
    (hs : ∀ env : Env, eval ((Expr.Name o p).Attribute n pos) env = (do let o' ← eval (.Name o p) env; standAt pos.atName; let r ← holding [o'] (getAttr o' n true); letTemporaryGo (.Name o p) o' r; pure r) := by intro _; rfl) : JE k c S vals H (eval (.Attribute (.Name o p) n pos) (c.env S)) Q := fun ok F s g =>
  Attribute_Name_ (wpAny_mono (h ok F s g) (fun a s1 ⟨x, v1, H1, ia, q, g1⟩ => q a ia ok F s1 g1) fun _ _ x => x) (hs _)
-- attribute stores
def SetV (k : Nat) (c : Cx) (S : Fn) (vals : Vals) (H : List Asn) (x : SV) (n : Str) (v : SV) (Q : Vals → List Asn → Prop) : Prop := ∀ a b, Is a x → Is b v → JU k c S vals H (setAttr a n b) fun _ v1 H1 => Q v1 H1
theorem SetV.put {x C : Addr} {fs fs' : List (Str × SV)} {n : Str} {v : SV} {Q : Vals → List Asn → Prop} (hr : Rp (OB x C fs) (OB x C fs') H H') (hp : PutF fs n v fs') (hc : SetOk C n) (q : Q vals H') (hz : fs.length ≤ 100 := by decide) : SetV k c S vals H (.ref x) n v Q := by
  rintro a b rfl iv ok F s g
  obtain ⟨mv, N, e, Fm, NN, nd, st, sl⟩ := g.open_
  obtain ⟨N1, N2, rfl, st1, st2⟩ := Star.app.mp st
  obtain ⟨X, Y, Z, rfl, ⟨d, es, rfl, i, hn⟩, back⟩ := hr.split st1
  obtain ⟨a1, a2, a3⟩ := i.put (hsh := PyData.keyHash c.w.params n) (key := .str n (s.toks + 1)) hp hn iv
  have eN : X ++ ([(x, instObj C d), (d, dictOf es es.length)] ++ Z) ++ N2 = (X ++ [(x, instObj C d)]) ++ (d, dictOf es es.length) :: (Z ++ N2) := by simp
  rw [eN] at NN nd
  have hel := i.len
  have e1 : (putL n (PyData.keyHash c.w.params n) (.str n (s.toks + 1)) b es, putN n es es.length) = (putL n (PyData.keyHash c.w.params n) (.str n (s.toks + 1)) b es, es.length) := Prod.ext rfl (by show putN n es es.length = es.length; unfold putN; rw [if_pos a3])
  refine set_dict Fm ok.X NN (InstAt.of_news (sl := #[]) (dx := d) (od := dictOf es es.length) NN (by simp) (by simp)) rfl (hc.h1 _) (hc.h2 _) (hc.h3 _) (hc.h4 _) i.some (e1 : (putL n (PyData.keyHash c.w.params n) (.str n (s.toks + 1)) b es, putN n es es.length) = (_, es.length)) (upd_mid nd) (by rw [a2, hel]; omega) fun h' F' N' => ⟨(), vals, H', rfl, q, good.mk e F' N' (nodup_mid nd) ?_ sl⟩
  · have := back [(x, instObj C d), (d, dictOf (putL n (PyData.keyHash c.w.params n) (.str n (s.toks + 1)) b es) es.length)] ⟨d, _, by rw [a2], a1, by rw [hp.names]; exact hn⟩
    refine Star.app.mpr ⟨_, N2, ?_, this, st2⟩
    simp
theorem SetV.new {x C : Addr} {fs : List (Str × SV)} {n : Str} {v : SV} {Q : Vals → List Asn → Prop} (hr : Rp (OB x C fs) (OB x C (fs ++ [(n, v)])) H H') (hx : n ∉ fs.map (·.1)) (hc : SetOk C n) (q : Q vals H') (hz : fs.length ≤ 100 := by decide) : SetV k c S vals H (.ref x) n v Q := by
  rintro a b rfl iv ok F s g
  obtain ⟨mv, N, e, Fm, NN, nd, st, sl⟩ := g.open_
  obtain ⟨N1, N2, rfl, st1, st2⟩ := Star.app.mp st
  obtain ⟨X, Y, Z, rfl, ⟨d, es, rfl, i, hn⟩, back⟩ := hr.split st1
  obtain ⟨a1, a2, a3⟩ := i.new (hsh := PyData.keyHash c.w.params n) (t := s.toks + 1) hx iv
  have eN : X ++ ([(x, instObj C d), (d, dictOf es es.length)] ++ Z) ++ N2 = (X ++ [(x, instObj C d)]) ++ (d, dictOf es es.length) :: (Z ++ N2) := by simp
  rw [eN] at NN nd
  have hel := i.len
  have e1 : (putL n (PyData.keyHash c.w.params n) (.str n (s.toks + 1)) b es, putN n es es.length) = (putL n (PyData.keyHash c.w.params n) (.str n (s.toks + 1)) b es, es.length + 1) := Prod.ext rfl (by show putN n es es.length = es.length + 1; unfold putN; rw [if_neg (by rw [a3]; exact Bool.false_ne_true)])
  refine set_dict Fm ok.X NN (InstAt.of_news (sl := #[]) (dx := d) (od := dictOf es es.length) NN (by simp) (by simp)) rfl (hc.h1 _) (hc.h2 _) (hc.h3 _) (hc.h4 _) i.some (e1 : (putL n (PyData.keyHash c.w.params n) (.str n (s.toks + 1)) b es, putN n es es.length) = (_, es.length + 1)) (upd_mid nd) (by rw [a2, hel]; omega) fun h' F' N' => ⟨(), vals, H', rfl, q, good.mk e F' N' (nodup_mid nd) ?_ sl⟩
  · have := back [(x, instObj C d), (d, dictOf (putL n (PyData.keyHash c.w.params n) (.str n (s.toks + 1)) b es) (es.length + 1))] ⟨d, _, by rw [a2], a1, by
      rw [List.map_append]
      exact List.nodup_append.mpr ⟨hn, by simp, fun y hy z hz => by
        have : z = n := by simpa using hz
        rw [this]; exact fun e => hx (e ▸ hy)⟩⟩
    refine Star.app.mpr ⟨_, N2, ?_, this, st2⟩
    simp
theorem J.asgA {o n : Str} {e : Expr} {p p' pos : Pos} {rest : List Stmt} {Q : QF} (h : JE k c S vals H (eval e (c.env S)) fun v v1 H1 => JE k c S v1 H1 (eval (.Name o p) (c.env S)) fun x v2 H2 => SetV k c S v2 H2 x n v fun v3 H3 => JF k c S v3 H3 (execs rest (c.env S)) Q)
    (hs : swapsWith e (some (.Attribute (.Name o p) n p')) pos.line (c.env S) = pure false := by rfl) : JF k c S vals H (execs (.Assign [.Attribute (.Name o p) n p'] e pos :: rest) (c.env S)) Q := J.cons fun ok F s g =>
  plainObj_wpAny_Assign_Attribute (wpAny_mono (h ok F s g) (fun b s1 ⟨v, v1, H1, ib, q, g1⟩ => wpAny_mono (q ok F s1 g1) (fun a s2 ⟨x, v2, H2, ia, q2, g2⟩ => wpAny_mono (q2 a b ia ib ok F s2 g2) (fun _ s3 ⟨_, v3, H3, _, q3, g3⟩ => ⟨.next, v3, H3, trivial, q3, g3⟩) fun _ _ x => x) fun _ _ x => x) fun _ _ x => x) hs
-- arguments
abbrev QL := List SV → Vals → List Asn → Prop
abbrev JA (k : Nat) (c : Cx) (S : Fn) (vals : Vals) (H : List Asn) (pos : Pos) (args : List Expr) (env : Env) (Q : QL) : Prop := JL k c S vals H (spliced (backTo pos (starEach args env))) Q
theorem J.args0 {pos : Pos} {env : Env} {Q : QL} (q : Q [] vals H) : JA k c S vals H pos [] env Q := fun ok F s g => args_nil ⟨[], vals, H, trivial, q, g⟩
theorem J.args {e : Expr} {rest : List Expr} {pos : Pos} {env : Env} {Q : QL} (h : JE k c S vals H (eval e env) fun x v1 H1 => JA k c S v1 H1 pos rest env fun xs v2 H2 => Q (x :: xs) v2 H2) (hs : starEach (e :: rest) env = (false, eval e env) :: starEach rest env := by rfl) : JA k c S vals H pos (e :: rest) env Q := fun ok F s g =>
  args_cons (wpAny_mono (h ok F s g) (fun a s1 ⟨x, v1, H1, ia, q, g1⟩ => wpAny_mono (q ok F s1 g1) (fun as s2 ⟨xs, v2, H2, is, q2, g2⟩ => ⟨x :: xs, v2, H2, ⟨ia, is⟩, q2, g2⟩) fun _ _ x => x) fun _ _ x => x) hs
theorem J.args1 {e : Expr} {pos : Pos} {env : Env} {Q : QL} (h : JE k c S vals H (eval e env) fun x v1 H1 => Q [x] v1 H1) (hs : starEach [e] env = (false, eval e env) :: starEach [] env := by rfl) : JA k c S vals H pos [e] env Q := J.args (J.mono h fun _ _ _ q => J.args0 q) hs
-- calls
theorem good.inK {s : Shared} {F : List Asn} (ok : Ok k c S) (g : good c S s vals (H ++ F)) : (KF c.w).In s.heap := by
  obtain ⟨mv, N, e, Fm, NN, nd, st, sl⟩ := g.open_
  exact Frag.In.keeps ok.X Fm.keep
theorem J.callG {x : Str} {f : Addr} {e : Expr} {rest : List Expr} {p pos : Pos} {Q : QE} (hk : GKind S x) (hg : GlobOk x (.ref f)) (hf : KeepOk (.ref f)) (h : JA k c S vals H pos (e :: rest) (c.env S) fun xs v1 H1 => JC k c S v1 H1 (.ref f) xs Q)
    (h1 : starEach (e :: rest) (c.env S) = (false, eval e (c.env S)) :: starEach rest (c.env S) := by rfl) (h2 : ((backTo pos (starEach rest (c.env S))).any fun x => x.1) = false := by rfl)
    (h3 : eval ((Expr.Name x p).Call (e :: rest) [] pos) (c.env S) = (do let f ← eval (.Name x p) (c.env S); callWith pos f [] (backTo pos (starEach (e :: rest) (c.env S))) (backToKw pos (keywordEach [] (c.env S)))) := by rfl) : JE k c S vals H (eval (.Call (.Name x p) (e :: rest) [] pos) (c.env S)) Q := fun ok F s g => by
  refine Call_ (wpAny_mono (J.glob (v := .ref f) (sv := .ref f) hk hg (Q := fun sv v1 H1 => sv = .ref f ∧ v1 = vals ∧ H1 = H) rfl ⟨rfl, rfl, rfl⟩ ok F s g) (fun a s1 ⟨sv, v1, H1, ia, ⟨e1, e2, e3⟩, g1⟩ => ?_) fun _ _ x => x) h3
  subst e1 e2 e3
  have ia : a = .ref f := ia
  subst ia
  refine callWith_K ok.X (hf _) (wpAny_mono (h ok F s1 g1) (fun as s2 ⟨xs, v2, H2, is, q2, g2⟩ => ⟨g2.inK ok, ?_⟩) fun _ _ x => x) h1 h2
  exact q2 _ is ok F s2 g2
theorem J.callG0 {x : Str} {f : Addr} {p pos : Pos} {Q : QE} (hk : GKind S x) (hg : GlobOk x (.ref f)) (hf : KeepOk (.ref f)) (h : JC k c S vals H (.ref f) [] Q)
    (h3 : eval ((Expr.Name x p).Call [] [] pos) (c.env S) = (do let f ← eval (.Name x p) (c.env S); callWith pos f [] (backTo pos (starEach [] (c.env S))) (backToKw pos (keywordEach [] (c.env S)))) := by rfl) : JE k c S vals H (eval (.Call (.Name x p) [] [] pos) (c.env S)) Q := fun ok F s g => by
  refine Call_ (wpAny_mono (J.glob (v := .ref f) (sv := .ref f) hk hg (Q := fun sv v1 H1 => sv = .ref f ∧ v1 = vals ∧ H1 = H) rfl ⟨rfl, rfl, rfl⟩ ok F s g) (fun a s1 ⟨sv, v1, H1, ia, ⟨e1, e2, e3⟩, g1⟩ => ?_) fun _ _ x => x) h3
  subst e1 e2 e3
  have ia : a = .ref f := ia
  subst ia
  exact callWith_K0 (g1.inK ok) (hf _) (h [] trivial ok F s1 g1)
theorem J.callB {x : Str} {id : String} {e : Expr} {rest : List Expr} {p pos : Pos} {Q : QE} (hk : GKind S x) (hg : BltOk x (.builtin id)) (h : JA k c S vals H pos (e :: rest) (c.env S) fun xs v1 H1 => JC k c S v1 H1 (.builtin id) xs Q)
    (h1 : starEach (e :: rest) (c.env S) = (false, eval e (c.env S)) :: starEach rest (c.env S) := by rfl) (h2 : ((backTo pos (starEach rest (c.env S))).any fun x => x.1) = false := by rfl)
    (h3 : eval ((Expr.Name x p).Call (e :: rest) [] pos) (c.env S) = (do let f ← eval (.Name x p) (c.env S); callWith pos f [] (backTo pos (starEach (e :: rest) (c.env S))) (backToKw pos (keywordEach [] (c.env S)))) := by rfl) : JE k c S vals H (eval (.Call (.Name x p) (e :: rest) [] pos) (c.env S)) Q := fun ok F s g => by
  refine Call_ (wpAny_mono (J.blt hk hg (Q := fun sv v1 H1 => sv = .raw (.builtin id) ∧ v1 = vals ∧ H1 = H) ⟨rfl, rfl, rfl⟩ ok F s g) (fun a s1 ⟨sv, v1, H1, ia, ⟨e1, e2, e3⟩, g1⟩ => ?_) fun _ _ x => x) h3
  subst e1 e2 e3
  have ia : a = .builtin id := ia
  subst ia
  exact callWith_builtin1 (wpAny_mono (h ok F s1 g1) (fun as s2 ⟨xs, v2, H2, is, q2, g2⟩ => q2 _ is ok F s2 g2) fun _ _ x => x) h1 h2
theorem J.callT {x : Str} {T : String} {e : Expr} {rest : List Expr} {p pos : Pos} {Q : QE} (hk : GKind S x) (hg : BltOk x (.type T)) (h : JA k c S vals H pos (e :: rest) (c.env S) fun xs v1 H1 => JC k c S v1 H1 (.type T) xs Q)
    (h1 : starEach (e :: rest) (c.env S) = (false, eval e (c.env S)) :: starEach rest (c.env S) := by rfl) (h2 : ((backTo pos (starEach rest (c.env S))).any fun x => x.1) = false := by rfl)
    (h3 : eval ((Expr.Name x p).Call (e :: rest) [] pos) (c.env S) = (do let f ← eval (.Name x p) (c.env S); callWith pos f [] (backTo pos (starEach (e :: rest) (c.env S))) (backToKw pos (keywordEach [] (c.env S)))) := by rfl) : JE k c S vals H (eval (.Call (.Name x p) (e :: rest) [] pos) (c.env S)) Q := fun ok F s g => by
  refine Call_ (wpAny_mono (J.blt hk hg (Q := fun sv v1 H1 => sv = .raw (.type T) ∧ v1 = vals ∧ H1 = H) ⟨rfl, rfl, rfl⟩ ok F s g) (fun a s1 ⟨sv, v1, H1, ia, ⟨e1, e2, e3⟩, g1⟩ => ?_) fun _ _ x => x) h3
  subst e1 e2 e3
  have ia : a = .type T := ia
  subst ia
  exact Pv.callWith_type1 (wpAny_mono (h ok F s1 g1) (fun as s2 ⟨xs, v2, H2, is, q2, g2⟩ => q2 _ is ok F s2 g2) fun _ _ x => x) h1 h2
-- methods
def Recv (a : Asn) (x C : Addr) (n : Str) : Prop := ∀ N, a N → ∃ d es, (x, instObj C d) ∈ N ∧ (d, dictOf es es.length) ∈ N ∧ getL n es = some none
theorem OB.recv {x C : Addr} {fs : List (Str × SV)} {n : Str} (h : n ∉ fs.map (·.1)) : Recv (OB x C fs) x C n := by
  rintro N ⟨d, es, rfl, i, hn⟩
  exact ⟨d, es, by simp, by simp, i.none h⟩
def MetV (k : Nat) (c : Cx) (S : Fn) (vals : Vals) (H : List Asn) (x : SV) (n : Str) (Q : Addr → SV → Prop) : Prop := ∃ o C f a, x = .ref o ∧ At H a ∧ Recv a o C n ∧ MethOk C n f ∧ Q f (.ref o)
theorem MetV.mk {o C f : Addr} {a : Asn} {n : Str} {Q : Addr → SV → Prop} (ha : At H a) (hr : Recv a o C n) (hm : MethOk C n f) (q : Q f (.ref o)) : MetV k c S vals H (.ref o) n Q := ⟨o, C, f, a, rfl, ha, hr, hm, q⟩
theorem J.meth {o : Expr} {n : Str} {p pos : Pos} {e : Expr} {rest : List Expr} {Q : QE} {pl : Sem Bool} (h : JE k c S vals H (eval o (c.env S)) fun x v1 H1 => MetV k c S v1 H1 x n fun f self => JA k c S v1 H1 pos (e :: rest) (c.env S) fun xs v2 H2 => JC k c S v2 H2 (.ref f) (self :: xs) Q)
    (h1 : starEach (e :: rest) (c.env S) = (false, eval e (c.env S)) :: starEach rest (c.env S) := by rfl) (h2 : ((backTo pos (starEach rest (c.env S))).any fun x => x.1) = false := by rfl)
    (h3 : eval ((o.Attribute n p).Call (e :: rest) [] pos) (c.env S) = (do let ov ← eval o (c.env S); standAt p.atName; let __x ← holding [ov] (getMethod ov n pl); match __x with | (f, first) => callWith pos f first (backTo pos (starEach (e :: rest) (c.env S))) []) := by rfl) : JE k c S vals H (eval (.Call (.Attribute o n p) (e :: rest) [] pos) (c.env S)) Q := fun ok F s g => by
  refine MethodCall_ (pl := pl) (wpAny_mono (h ok F s g) (fun ov s1 ⟨x, v1, H1, ia, ⟨oa, C, f, a, e1, ha, hr, hm, q⟩, g1⟩ => ?_) fun _ _ x => x) h3
  subst e1
  have ia : ov = .ref oa := ia
  subst ia
  obtain ⟨mv, N, e, Fm, NN, nd, st, sl⟩ := g1.open_
  obtain ⟨N1, N2, rfl, st1, st2⟩ := Star.app.mp st
  obtain ⟨X, Y, Z, rfl, hY⟩ := ha.split st1
  obtain ⟨d, es, m1, m2, gl⟩ := hr _ hY
  refine method_inst Fm ok.X (InstAt.of_news (sl := #[]) (dx := d) (od := dictOf es es.length) NN (List.mem_append.mpr (.inl (List.mem_append.mpr (.inr (List.mem_append.mpr (.inl m1)))))) (List.mem_append.mpr (.inl (List.mem_append.mpr (.inr (List.mem_append.mpr (.inl m2))))))) (hm.h1 _) (hm.h2 _) (hm.h3 _) gl ?_
  refine callWith_K ok.X (hm.h4 _) (wpAny_mono (q ok F s1 g1) (fun as s2 ⟨xs, v2, H2, is, q2, g2⟩ => ⟨g2.inK ok, ?_⟩) fun _ _ x => x) h1 h2
  exact q2 (.ref oa :: as) ⟨rfl, is⟩ ok F s2 g2
theorem J.meth0 {o : Expr} {n : Str} {p pos : Pos} {Q : QE} {pl : Sem Bool} (h : JE k c S vals H (eval o (c.env S)) fun x v1 H1 => MetV k c S v1 H1 x n fun f self => JC k c S v1 H1 (.ref f) [self] Q)
    (h3 : eval ((o.Attribute n p).Call [] [] pos) (c.env S) = (do let ov ← eval o (c.env S); standAt p.atName; let __x ← holding [ov] (getMethod ov n pl); match __x with | (f, first) => callWith pos f first (backTo pos (starEach [] (c.env S))) []) := by rfl) : JE k c S vals H (eval (.Call (.Attribute o n p) [] [] pos) (c.env S)) Q := fun ok F s g => by
  refine MethodCall_ (pl := pl) (wpAny_mono (h ok F s g) (fun ov s1 ⟨x, v1, H1, ia, ⟨oa, C, f, a, e1, ha, hr, hm, q⟩, g1⟩ => ?_) fun _ _ x => x) h3
  subst e1
  have ia : ov = .ref oa := ia
  subst ia
  obtain ⟨mv, N, e, Fm, NN, nd, st, sl⟩ := g1.open_
  obtain ⟨N1, N2, rfl, st1, st2⟩ := Star.app.mp st
  obtain ⟨X, Y, Z, rfl, hY⟩ := ha.split st1
  obtain ⟨d, es, m1, m2, gl⟩ := hr _ hY
  refine method_inst Fm ok.X (InstAt.of_news (sl := #[]) (dx := d) (od := dictOf es es.length) NN (List.mem_append.mpr (.inl (List.mem_append.mpr (.inr (List.mem_append.mpr (.inl m1)))))) (List.mem_append.mpr (.inl (List.mem_append.mpr (.inr (List.mem_append.mpr (.inl m2))))))) (hm.h1 _) (hm.h2 _) (hm.h3 _) gl ?_
  exact callWith_K0 (g1.inK ok) (hm.h4 _) (q [.ref oa] ⟨rfl, trivial⟩ ok F s1 g1)
-- built-ins
theorem JC.len {l : Addr} {ns : List Int} {Q : QE} (h : At H (LI l ns)) (hz : ns.length ≤ 100000) (q : Q (.int ns.length) vals H) : JC k c S vals H (.builtin "len") [.ref l] Q := by
  rintro vs is ok F s g
  match vs, is with
  | [a], ⟨ia, _⟩ =>
    have ia : a = .ref l := ia
    subst ia
    obtain ⟨mv, N, e, Fm, NN, nd, st, sl⟩ := g.open_
    obtain ⟨us, n, h1, i1⟩ := h.li st
    exact kst_len NN h1 i1.length (by omega) ⟨.int ns.length, vals, H, ⟨_, rfl⟩, q, g.tok⟩
theorem JC.minI {x y : Int} {Q : QE} (q : Q (.int (min x y)) vals H) : JC k c S vals H (.builtin "min") [.int x, .int y] Q := by
  rintro vs is ok F s g
  match vs, is with
  | [a, b], ⟨⟨t, ea⟩, ⟨u, eb⟩, _⟩ =>
    subst ea eb
    obtain ⟨mv, N, e, Fm, NN, nd, st, sl⟩ := g.open_
    exact min_two_N ok.handled Fm NN fun h' tk F' N' => ⟨.int (min x y), vals, H, ⟨_, congrArg (fun z => Value.int z _) (by split <;> omega)⟩, q, good.mk e F' N' nd st sl⟩
theorem JC.maxI {x y : Int} {Q : QE} (q : Q (.int (max x y)) vals H) : JC k c S vals H (.builtin "max") [.int x, .int y] Q := by
  rintro vs is ok F s g
  match vs, is with
  | [a, b], ⟨⟨t, ea⟩, ⟨u, eb⟩, _⟩ =>
    subst ea eb
    obtain ⟨mv, N, e, Fm, NN, nd, st, sl⟩ := g.open_
    exact max_two_N ok.handled Fm NN fun h' tk F' N' => ⟨.int (max x y), vals, H, ⟨_, congrArg (fun z => Value.int z _) (by split <;> omega)⟩, q, good.mk e F' N' nd st sl⟩
theorem JC.listI {l : Addr} {ns : List Int} {Q : QE} (h : At H (LI l ns)) (hz : ns.length ≤ 100000) (q : ∀ D, Q (.ref D) vals (LI D ns :: H)) : JC k c S vals H (.type "list") [.ref l] Q := by
  rintro vs is ok F s g
  match vs, is with
  | [a], ⟨ia, _⟩ =>
    have ia : a = .ref l := ia
    subst ia
    obtain ⟨mv, N, e, Fm, NN, nd, st, sl⟩ := g.open_
    obtain ⟨us, n, h1, i1⟩ := h.li st
    exact kup_listOf Fm NN h1 rfl (fun D n' h' F' N' lt => ⟨.ref D, vals, _, rfl, q D, good.new e F' N' lt nd st sl ⟨us, n', rfl, i1⟩⟩) (by rw [sizeLine_eq, List.toList_toArray, i1.length]; omega)
theorem J.list {es : List Expr} {pos : Pos} {env : Env} {Q : QE} (h : JA k c S vals H pos es env fun xs v1 H1 => ∃ ns : List Int, xs = ns.map SV.int ∧ ns.length ≤ 100 ∧ ∀ D, Q (.ref D) v1 (LI D ns :: H1)) : JE k c S vals H (eval (.List es pos) env) Q := fun ok F s g =>
  List_ (wpAny_mono (h ok F s g) (fun as s1 ⟨xs, v1, H1, is, ⟨ns, ex, hz, q⟩, g1⟩ => by
    obtain ⟨mv, N, e, Fm, NN, nd, st, sl⟩ := g1.open_
    subst ex
    have hi := is.ints
    exact newList_K Fm NN (fun D h' F' N' lt => ⟨.ref D, v1, _, rfl, q D, good.new e F' N' lt nd st sl ⟨as, 0, rfl, hi⟩⟩) (by rw [hi.length, sizeLine_eq]; omega)) fun _ _ x => x)
theorem J.tuple {es : List Expr} {n : Nat} {pos : Pos} {env : Env} {Q : QE} (h : JA k c S vals H pos es env fun xs v1 H1 => xs.length ≤ 100 ∧ ∀ D, Q (.ref D) v1 (TP D xs :: H1)) : JE k c S vals H (eval (.Tuple es n pos) env) Q := fun ok F s g =>
  Tuple_ (wpAny_mono (h ok F s g) (fun as s1 ⟨xs, v1, H1, is, ⟨hz, q⟩, g1⟩ => by
    obtain ⟨mv, N, e, Fm, NN, nd, st, sl⟩ := g1.open_
    have hl := is.len
    exact kup_newTuple Fm NN (fun D h' F' N' lt => ⟨.ref D, v1, _, rfl, q D, good.new e F' N' lt nd st sl ⟨as, rfl, is⟩⟩) (by rw [hl, sizeLine_eq]; omega)) fun _ _ x => x)
theorem J.dict0 {pos : Pos} {env : Env} {Q : QE} (q : ∀ D, Q (.ref D) vals (DE D :: H)) : JE k c S vals H (eval (.Dict [] [] pos) env) Q := fun ok F s g => by
  obtain ⟨mv, N, e, Fm, NN, nd, st, sl⟩ := g.open_
  refine newDict_K Fm NN ok.T.nolimit fun D h' o F' N' lt hs _ _ hi _ => ⟨.ref D, vals, _, rfl, q D, good.new e F' N' lt nd st sl ?_⟩
  obtain ⟨es, ep, h1, h2, h3, h4, h5⟩ := hi
  have : es = #[] := by
    apply Array.toList_inj.mp
    cases q : es.toList with
    | nil => rfl
    | cons a l => rw [q] at h4; cases h4
  subst this
  exact ⟨o, ep, rfl, hs, h1, h2⟩
end
/-- forgetting -/
inductive Le : Vals → Vals → Prop
  | nil : Le [] []
  | keep {o vs ws} (h : Le vs ws) : Le (o :: vs) (o :: ws)
  | drop {o vs ws} (h : Le vs ws) : Le (o :: vs) (.none :: ws)
theorem Le.slots {vs ws : Vals} (h : Le vs ws) : ∀ {ns m}, Slots ns vs m → Slots ns ws m := by
  induction h with
  | nil => exact fun h => h
  | @keep o vs ws h ih =>
    intro ns m hs
    cases ns with
    | nil => cases o <;> trivial
    | cons x ns => cases o with
      | none => exact ih hs
      | some u => exact ⟨hs.1, ih hs.2⟩
  | @drop o vs ws h ih =>
    intro ns m hs
    cases ns with
    | nil => trivial
    | cons x ns => cases o with
      | none => exact ih hs
      | some u => exact ih hs.2
theorem Le.refl : ∀ (vs : Vals), Le vs vs
  | [] => .nil
  | _ :: vs => .keep (Le.refl vs)
theorem good.le {c : Cx} {S : Fn} {s : Shared} {vals v' : Vals} {H : List Asn} (l : Le vals v') (g : good c S s vals H) : good c S s v' H := g.slots fun _ => l.slots
/-- entailment of heaps: pure closing of assertions -/
def Ent (H H' : List Asn) : Prop := ∀ N, (N.map (·.1)).Nodup → Star H N → ∃ N', (∀ q ∈ N', q ∈ N) ∧ (N'.map (·.1)).Nodup ∧ Star H' N'
theorem Ent.refl (H : List Asn) : Ent H H := fun N nd st => ⟨N, fun _ h => h, nd, st⟩
theorem Ent.trans {A B C : List Asn} (h1 : Ent A B) (h2 : Ent B C) : Ent A C := fun N nd st => by
  obtain ⟨N1, s1, n1, t1⟩ := h1 N nd st
  obtain ⟨N2, s2, n2, t2⟩ := h2 N1 n1 t1
  exact ⟨N2, fun q hq => s1 q (s2 q hq), n2, t2⟩
theorem Ent.perm {A B : List Asn} (p : A.Perm B) : Ent A B := fun N nd st => by
  obtain ⟨N', q, st'⟩ := st.perm p
  exact ⟨N', fun z hz => q.mem_iff.mp hz, (q.map _).nodup_iff.mpr nd, st'⟩
theorem Ent.dropL {A R : List Asn} : Ent (A ++ R) A := fun N nd st => by
  obtain ⟨N1, N2, rfl, h1, h2⟩ := Star.app.mp st
  rw [List.map_append] at nd
  exact ⟨N1, fun z hz => List.mem_append.mpr (.inl hz), (List.nodup_append.mp nd).1, h1⟩
theorem Ent.take {A H R : List Asn} (t : Take A H R) : Ent H A := (Ent.perm t.perm).trans .dropL
theorem Ent.app {A B : List Asn} (h : Ent A B) (F : List Asn) : Ent (A ++ F) (B ++ F) := fun N nd st => by
  obtain ⟨N1, N2, rfl, h1, h2⟩ := Star.app.mp st
  rw [List.map_append] at nd
  obtain ⟨n1, n2, n3⟩ := List.nodup_append.mp nd
  obtain ⟨N', s', nd', st'⟩ := h N1 n1 h1
  refine ⟨N' ++ N2, fun q hq => ?_, ?_, Star.app.mpr ⟨N', N2, rfl, st', h2⟩⟩
  · rcases List.mem_append.mp hq with hq | hq
    · exact List.mem_append.mpr (.inl (s' q hq))
    · exact List.mem_append.mpr (.inr hq)
  · rw [List.map_append]
    refine List.nodup_append.mpr ⟨nd', n2, fun a ha b hb => n3 a ?_ b hb⟩
    obtain ⟨q, hq, rfl⟩ := List.mem_map.mp ha
    exact List.mem_map.mpr ⟨q, s' q hq, rfl⟩
theorem good.ent {c : Cx} {S : Fn} {s : Shared} {vals : Vals} {H H' : List Asn} (h : Ent H H') (g : good c S s vals H) : good c S s vals H' := by
  obtain ⟨hp, tk, mv, N, rfl, F, NN, nd, st, sl⟩ := g
  obtain ⟨N', s', nd', st'⟩ := h N nd st
  exact ⟨hp, tk, mv, N', rfl, F, fun x hx => NN x (s' x hx), nd', st', sl⟩
section
variable {α β : Type} {R : α → β → Prop} {k : Nat} {c : Cx} {S : Fn} {vals : Vals} {H H' : List Asn} {t : Sem α} {Q : β → Vals → List Asn → Prop}
theorem J.ent (e : Ent H H') (h : J R k c S vals H' t Q) : J R k c S vals H t Q := fun ok F s g => h ok F s (g.ent (e.app F))
theorem J.le {v' : Vals} (l : Le vals v') (h : J R k c S v' H t Q) : J R k c S vals H t Q := fun ok F s g => h ok F s (g.le l)
end
-- subscripts
section
variable {k : Nat} {c : Cx} {S : Fn} {vals : Vals} {H H' : List Asn}
def SubV (k : Nat) (c : Cx) (S : Fn) (vals : Vals) (H : List Asn) (slice : Expr) (x i : SV) (Q : QE) : Prop := ∀ value a b, Is a x → Is b i → JE k c S vals H (subscriptTail value slice a b) Q
theorem J.sub {e i : Expr} {pos : Pos} {env : Env} {Q : QE} (h : JE k c S vals H (eval e env) fun x v1 H1 => JE k c S v1 H1 (eval i env) fun y v2 H2 => SubV k c S v2 H2 i x y Q) : JE k c S vals H (eval (.Subscript e i pos) env) Q := fun ok F s g =>
  Subscript_ (wpAny_mono (h ok F s g) (fun a s1 ⟨x, v1, H1, ia, q, g1⟩ => wpAny_mono (q ok F s1 g1) (fun b s2 ⟨y, v2, H2, ib, q2, g2⟩ => q2 e a b ia ib ok F s2 g2) fun _ _ x => x) fun _ _ x => x)
theorem SubV.li {i : Expr} {D : Addr} {ns : List Int} {j : Int} {Q : QE} (h : At H (LI D ns)) (h0 : 0 ≤ j) (h1 : j < ns.length) (hz : ns.length ≤ 100000) (q : Q (.int (ns.getD j.toNat 0)) vals H) (hs : ∀ (D : Addr) (j : Int) (u : Tok), subscripted i false (.ref D) (.int j u) = operate [.ref D, .int j u] (getItem (.ref D) (.int j u)) := by intros; rfl) : SubV k c S vals H i (.ref D) (.int j) Q := by
  rintro value a b rfl ⟨t, rfl⟩ ok F s g
  obtain ⟨mv, N, e, Fm, NN, nd, st, sl⟩ := g.open_
  obtain ⟨us, n, m1, i1⟩ := h.li st
  exact ksa_sub NN m1 i1 h0 h1 (by omega) (fun t => ⟨.int _, vals, H, ⟨_, rfl⟩, q, g⟩) (hs _ _ _)
theorem IsAll.get : ∀ {as : List Value} {xs : List SV} {j : Nat} {v : SV}, IsAll as xs → xs[j]? = some v → ∃ u, as[j]? = some u ∧ Is u v
  | a :: as, x :: xs, 0, v, ⟨h, _⟩, e => ⟨a, rfl, by
      have e : x = v := Option.some.inj e
      exact e ▸ h⟩
  | a :: as, x :: xs, j + 1, v, ⟨_, r⟩, e => by
      obtain ⟨u, h1, h2⟩ := IsAll.get (j := j) r e
      exact ⟨u, h1, h2⟩
  | [], [], _, _, _, e => nomatch e
  | [], _ :: _, _, _, h, _ => h.elim
  | _ :: _, [], _, _, h, _ => h.elim
theorem At.tp {t : Addr} {xs : List SV} {N : Led} (h : At H (TP t xs)) {F : List Asn} (hs : Star (H ++ F) N) : ∃ vs, (t, tupO vs) ∈ N ∧ IsAll vs xs := by
  obtain ⟨N1, N2, rfl, h1, h2⟩ := Star.app.mp hs
  obtain ⟨X, Y, Z, rfl, vs, rfl, hi⟩ := h.split h1
  exact ⟨vs, by simp, hi⟩
theorem SubV.tp {i : Expr} {D : Addr} {xs : List SV} {j : Nat} {v : SV} {Q : QE} (h : At H (TP D xs)) (hj : xs[j]? = some v) (hz : j ≤ 100) (q : Q v vals H) (hs : ∀ (D : Addr) (j : Int) (u : Tok), subscripted i false (.ref D) (.int j u) = operate [.ref D, .int j u] (getItem (.ref D) (.int j u)) := by intros; rfl) : SubV k c S vals H i (.ref D) (.int (j : Int)) Q := by
  rintro value a b rfl ⟨t, rfl⟩ ok F s g
  obtain ⟨mv, N, e, Fm, NN, nd, st, sl⟩ := g.open_
  obtain ⟨us, m1, i1⟩ := h.tp st
  obtain ⟨u, hu, iu⟩ := i1.get hj
  have hl : j < us.length := (List.getElem?_eq_some_iff.mp hu).1
  refine item_tupleT (l := us) (j := j) ⟨_, (NN _ m1).1, rfl, 0, rfl⟩ (by omega) (by omega) ?_ hu ⟨v, vals, H, iu, q, g⟩ (hs _ _ _)
  have h0 : ¬ ((j : Int) < 0) := by omega
  have h2 : (decide (0 ≤ (j : Int)) && decide ((j : Int) < (us.length : Int))) = true := by simp; omega
  simp only [seqIndex?, if_neg h0]
  rw [if_pos h2]
  rfl
-- slices
abbrev JP (k : Nat) (c : Cx) (S : Fn) (vals : Vals) (H : List Asn) (o : Option Expr) (env : Env) (Q : Option Int → Vals → List Asn → Prop) : Prop := J IsPart k c S vals H (evalPart o env) Q
theorem JP.none {env : Env} {Q : Option Int → Vals → List Asn → Prop} (q : Q .none vals H) : JP k c S vals H .none env Q := fun ok F s g => evalPart_none_step ⟨.none, vals, H, .none, q, g⟩
def PInt (v : SV) (Q : Int → Prop) : Prop := ∃ i, v = .int i ∧ Q i
theorem PInt.mk {i : Int} {Q : Int → Prop} (q : Q i) : PInt (.int i) Q := ⟨i, rfl, q⟩
theorem JP.some {e : Expr} {env : Env} {Q : Option Int → Vals → List Asn → Prop} (h : JE k c S vals H (eval e env) fun v v1 H1 => PInt v fun i => Q (.some i) v1 H1) : JP k c S vals H (.some e) env Q := fun ok F s g =>
  evalPart_some_step (wpAny_mono (h ok F s g) (fun a s1 ⟨v, v1, H1, ia, ⟨i, e1, q⟩, g1⟩ => by
    subst e1
    obtain ⟨t, rfl⟩ := ia
    exact ⟨.some i, v1, H1, .int i t, q, g1⟩) fun _ _ x => x)
inductive SlI (ns : List Int) : Option Int → Option Int → List Int → Prop
  | run {x y : Int} (h1 : 0 ≤ x) (h2 : 0 ≤ y) : SlI ns (some x) (some y) ((ns.drop x.toNat).take (y.toNat - x.toNat))
  | upto {y : Int} (h : 0 ≤ y) : SlI ns .none (some y) (ns.take y.toNat)
  | neg {y : Int} (h : y < 0) : SlI ns .none (some y) (ns.take (ns.length - (-y).toNat))
theorem SlI.pick {ns ms : List Int} {lo hi : Option Int} {vs : List Value} (h : SlI ns lo hi ms) (i : IntsAre vs ns) : IntsAre (slicePick (List.toArray vs) lo hi none).toList ms := by
  cases h with
  | @run x y h1 h2 =>
    have := kmk_run i h1 h2
    have e : (ns.drop x.toNat).take (min y.toNat ns.length - x.toNat) = (ns.drop x.toNat).take (y.toNat - x.toNat) := by
      by_cases h : y.toNat ≤ ns.length
      · rw [Nat.min_eq_left h]
      · rw [Nat.min_eq_right (by omega), List.take_of_length_le (by rw [List.length_drop]; omega), List.take_of_length_le (by rw [List.length_drop]; omega)]
    rwa [e] at this
  | upto h => exact kmk_upto i h
  | neg h => exact kmk_upto_neg i h
def SliV (k : Nat) (c : Cx) (S : Fn) (vals : Vals) (H : List Asn) (x : SV) (lo hi : Option Int) (Q : QE) : Prop := ∃ l ns ms, x = .ref l ∧ At H (LI l ns) ∧ ns.length ≤ 100000 ∧ SlI ns lo hi ms ∧ ∀ D, Q (.ref D) vals (LI D ms :: H)
theorem SliV.mk {l : Addr} {ns ms : List Int} {lo hi : Option Int} {Q : QE} (ha : At H (LI l ns)) (hz : ns.length ≤ 100000) (hs : SlI ns lo hi ms) (q : ∀ D, Q (.ref D) vals (LI D ms :: H)) : SliV k c S vals H (.ref l) lo hi Q := ⟨l, ns, ms, rfl, ha, hz, hs, q⟩
theorem J.slice {e : Expr} {lower upper : Option Expr} {p pos : Pos} {env : Env} {Q : QE} (h : JE k c S vals H (eval e env) fun x v1 H1 => JP k c S v1 H1 lower env fun lo v2 H2 => JP k c S v2 H2 upper env fun hi v3 H3 => SliV k c S v3 H3 x lo hi Q)
    (hs : ∀ l m : Addr, subscripted (.Slice lower upper none p) false (.ref l) (.ref m) = operate [.ref m, .ref l] (getItem (.ref l) (.ref m)) := by intros; rfl) : JE k c S vals H (eval (.Subscript e (.Slice lower upper none p) pos) env) Q := fun ok F s g => by
  refine Subscript_ (wpAny_mono (h ok F s g) (fun a s1 ⟨x, v1, H1, ia, q, g1⟩ => ?_) fun _ _ x => x)
  refine wpAny_Slice (wpAny_mono (q ok F s1 g1) (fun vl s2 ⟨lo, v2, H2, il, q2, g2⟩ => ?_) fun _ _ x => x)
  refine wpAny_mono (q2 ok F s2 g2) (fun vu s3 ⟨hi, v3, H3, iu, ⟨l, ns, ms, e1, ha, hz, hsl, q3⟩, g3⟩ => ?_) fun _ _ x => x
  refine evalPart_none_step ?_
  subst e1
  have ia : a = .ref l := ia
  subst ia
  obtain ⟨mv, N, e, Fm, NN, nd, st, sl⟩ := g3.open_
  obtain ⟨us, n, m1, i1⟩ := ha.li st
  refine kba_turn (value' := .Name (Str.ofString "x") default) (fun r => rfl) (kmk_slice_ints Fm NN (News.isList NN m1) il iu i1 (hsl.pick i1) rfl (fun D ws h' F' N' lt i _ _ => ⟨.ref D, v3, _, rfl, q3 D, good.new e F' N' lt nd st sl ⟨ws, 0, rfl, i⟩⟩) (hs _ _) (fun r => rfl) (by rw [List.size_toArray, i1.length, sizeLine_eq]; omega))
end
section
variable {k : Nat} {c : Cx} {S : Fn} {vals : Vals} {H H' : List Asn}
-- stores of several names
noncomputable def StoNs (S : Fn) : Vals → List Str → List SV → (Vals → Prop) → Prop
  | vals, [], [], Q => Q vals
  | vals, x :: xs, u :: us, Q => StoN S vals x u fun v => StoNs S v xs us Q
  | _, _, _, _ => False
theorem stoNs_run (hz : S.frz = none) {Q : Vals → List Asn → Prop} {xs : List Str} : ∀ {us : List SV} {vs : List Value} {vals : Vals} {fs : List (Value → Sem Unit)}, fs.length = xs.length → (∀ (i : Nat) f x, fs[i]? = some f → xs[i]? = some x → ∀ v vals H Q, JU k c S vals H (storeName (c.env S) x v) Q → JU k c S vals H (f v) Q) → IsAll vs us → StoNs S vals xs us (fun v => Q v H) → JU k c S vals H (assignInOrder fs vs) fun _ v1 H1 => Q v1 H1 := by
  induction xs with
  | nil =>
    intro us vs vals fs hl hf hi q
    have : fs = [] := List.eq_nil_of_length_eq_zero hl
    subst this
    cases us with
    | cons _ _ => exact q.elim
    | nil => cases vs with
      | cons _ _ => exact hi.elim
      | nil => exact fun ok F s g => assignInOrder_nil ⟨(), vals, H, rfl, q, g⟩
  | cons x xs ih =>
    intro us vs vals fs hl hf hi q
    cases us with
    | nil => exact q.elim
    | cons u us => cases vs with
      | nil => exact hi.elim
      | cons v vs => cases fs with
        | nil => cases hl
        | cons f fs =>
          obtain ⟨v1, hp, q⟩ := q
          intro ok F s g
          refine assignInOrder_cons (wpAny_mono (hf 0 f x rfl rfl v vals H (fun _ a b => a = v1 ∧ b = H) (good.store (Q := fun a b => a = v1 ∧ b = H) hz hp hi.1 ⟨rfl, rfl⟩) ok F s g) (fun _ s1 ⟨_, v2, H2, _, ⟨e1, e2⟩, g1⟩ => ?_) fun _ _ x => x)
          rw [e1, e2] at g1
          exact ih (Nat.succ.inj hl) (fun i f' x' h1 h2 => hf (i + 1) f' x' h1 h2) hi.2 q ok F s1 g1
theorem IsAll.rev : ∀ {vs : List Value} {us : List SV}, IsAll vs us → IsAll vs.reverse us.reverse := by
  intro vs us h
  have gen : ∀ {vs ws : List Value} {us ts : List SV}, IsAll vs us → IsAll ws ts → IsAll (vs.reverse ++ ws) (us.reverse ++ ts) := by
    intro vs
    induction vs with
    | nil => intro ws us ts h1 h2; cases us with
      | nil => exact h2
      | cons _ _ => exact h1.elim
    | cons v vs ih => intro ws us ts h1 h2; cases us with
      | nil => exact h1.elim
      | cons u us =>
        rw [List.reverse_cons, List.reverse_cons, List.append_assoc, List.append_assoc]
        exact ih h1.2 ⟨h1.1, h2⟩
  have := gen (ws := []) (ts := []) h trivial
  rwa [List.append_nil, List.append_nil] at this
theorem Sel.tp {t : Addr} {xs : List SV} (hs : Sel (TP t xs) H H') {s : Shared} {F : List Asn} (g : good c S s vals (H ++ F)) : good c S s vals (TP t xs :: H' ++ F) := g.perm (hs.perm.append_right _)
def UnpT (S : Fn) (vals : Vals) (H : List Asn) (x : SV) (xs : List Str) (Q : Vals → List Asn → Prop) : Prop := ∃ t us H', x = .ref t ∧ Sel (TP t us) H H' ∧ us.length = xs.length ∧ StoNs S vals xs us fun v => Q v H'
theorem UnpT.mk {t : Addr} {us : List SV} {xs : List Str} {Q : Vals → List Asn → Prop} (hs : Sel (TP t us) H H') (q : StoNs S vals xs us fun v => Q v H') (hl : us.length = xs.length := by rfl) : UnpT S vals H (.ref t) xs Q := ⟨t, us, H', rfl, hs, hl, q⟩
/-- names from a tuple -/
theorem J.asgT {names : List (Str × Pos)} {n : Nat} {e : Expr} {tp pos : Pos} {rest : List Stmt} {Q : QF} (h : JE k c S vals H (eval e (c.env S)) fun x v1 H1 => UnpT S v1 H1 x (names.map (·.1)) fun v2 H2 => JF k c S v2 H2 (execs rest (c.env S)) Q)
    (hs : swapsWithSole [.Tuple (names.map fun p => .Name p.1 p.2) n tp] e pos.line (c.env S) = pure false := by rfl) (hw : swappedStores [.Tuple (names.map fun p => .Name p.1 p.2) n tp] e (c.env S) = pure none := by rfl)
    (hE : assignEach (names.map fun p => .Name p.1 p.2) (c.env S) = names.map fun p => (false, assign (.Name p.1 p.2) (c.env S)) := by rfl) (hz : S.frz = none := by rfl) : JF k c S vals H (execs (.Assign [.Tuple (names.map fun p => .Name p.1 p.2) n tp] e pos :: rest) (c.env S)) Q := J.cons fun ok F s g => by
  refine Assign_Tuple (wpAny_mono (h ok F s g) (fun a s1 ⟨x, v1, H1, ia, ⟨t, us, H2, ex, hsel, hl, q⟩, g1⟩ => ?_) fun _ _ x => x) hs hw
  subst ex
  have ia : a = .ref t := ia
  subst ia
  obtain ⟨mv, N, e1, Fm, NN, nd, st, sl⟩ := (hsel.tp g1).open_
  obtain ⟨vs, m1, i1⟩ := At.hd.tp st
  refine unpackN_ (items := vs.toArray) Fm NN ⟨_, (NN _ m1).1, rfl, 0, rfl⟩ ok.handled (by rw [hE, List.length_map, List.size_toArray, i1.len, hl, List.length_map]) (by rw [hE]; simp [List.findIdx?_eq_none_iff]) fun h' F' N' => ?_
  obtain ⟨N1, N2, e3, ⟨vs', e4, _⟩, st2⟩ := st
  have g2 : good c S { s1 with heap := h' } v1 (H2 ++ F) := good.mk e1 F' (fun q hq => N' q (e3 ▸ List.mem_append.mpr (.inr hq))) (by
    rw [e3, List.map_append] at nd; exact (List.nodup_append.mp nd).2.1) st2 sl
  have r := stoNs_run hz (k := k) (c := c) (H := H2) (Q := fun v2 H2 => JF k c S v2 H2 (execs rest (c.env S)) Q) (fs := (assignEach (names.map fun p => .Name p.1 p.2) (c.env S)).map (·.2)) (xs := names.map (·.1)) (us := us) (vs := vs) (vals := v1) (by rw [hE]; simp) (fun i f x h1 h2 v vals H Q' hj => by
    rw [hE, List.map_map, List.getElem?_map] at h1
    obtain ⟨p, hp, ep⟩ := Option.map_eq_some_iff.mp h1
    have h2' : (names[i]?).map (·.1) = some x := by rw [← List.getElem?_map]; exact h2
    rw [hp] at h2'
    have e5 : p.1 = x := Option.some.inj h2'
    subst e5
    subst ep
    exact fun ok F s g => PyProof.Rows.assign_Name (hj ok F s g)) i1 q ok F _ g2
  refine wpAny_mono r (fun _ s3 ⟨_, v3, H3, _, q3, g3⟩ => ⟨.next, v3, H3, trivial, q3, g3⟩) fun _ _ x => x
/-- names from a written tuple: stored from behind -/
theorem J.asgW {names : List Str} {es : List Expr} {n : Nat} {e : Expr} {tp pos : Pos} {rest : List Stmt} {Q : QF} (h : JE k c S vals H (eval e (c.env S)) fun x v1 H1 => ∃ t us H', x = .ref t ∧ Sel (TP t us) H1 H' ∧ us.length = names.length ∧ StoNs S v1 names.reverse us.reverse fun v2 => JF k c S v2 H' (execs rest (c.env S)) Q)
    (hs : swapsWithSole [.Tuple es n tp] e pos.line (c.env S) = pure false := by rfl) (hw : swappedStores [.Tuple es n tp] e (c.env S) = pure (some names) := by rfl) (hz : S.frz = none := by rfl) : JF k c S vals H (execs (.Assign [.Tuple es n tp] e pos :: rest) (c.env S)) Q := J.cons fun ok F s g => by
  refine Assign_Tuple_swapped (wpAny_mono (h ok F s g) (fun a s1 ⟨x, v1, H1, ia, ⟨t, us, H2, ex, hsel, hl, q⟩, g1⟩ => ?_) fun _ _ x => x) hs hw
  subst ex
  have ia : a = .ref t := ia
  subst ia
  obtain ⟨mv, N, e1, Fm, NN, nd, st, sl⟩ := (hsel.tp g1).open_
  obtain ⟨vs, m1, i1⟩ := At.hd.tp st
  refine unpackItemsN_ (items := vs.toArray) Fm NN ⟨_, (NN _ m1).1, rfl, 0, rfl⟩ ok.handled (by rw [List.size_toArray, i1.len, hl]) fun h' F' N' => ?_
  obtain ⟨N1, N2, e3, ⟨vs', e4, _⟩, st2⟩ := st
  have g2 : good c S { s1 with heap := h' } v1 (H2 ++ F) := good.mk e1 F' (fun q hq => N' q (e3 ▸ List.mem_append.mpr (.inr hq))) (by
    rw [e3, List.map_append] at nd; exact (List.nodup_append.mp nd).2.1) st2 sl
  have r := stoNs_run hz (k := k) (c := c) (H := H2) (Q := fun v2 H2 => JF k c S v2 H2 (execs rest (c.env S)) Q) (fs := names.reverse.map fun n => bindName (c.env S) n) (xs := names.reverse) (us := us.reverse) (vs := vs.reverse) (vals := v1) (by simp) (fun i f x h1 h2 v vals H Q' hj => by
    rw [List.getElem?_map, h2] at h1
    have e5 : bindName (c.env S) x = f := Option.some.inj h1
    subst e5
    exact fun ok F s g => bindName_ (hj ok F s g)) i1.rev q ok F _ g2
  refine wpAny_mono r (fun _ s3 ⟨_, v3, H3, _, q3, g3⟩ => ⟨.next, v3, H3, trivial, q3, g3⟩) fun _ _ x => x
end
-- contracts
structure Sp {σ : Type} (f : Value) (svs : List SV) (Hf : List Asn) (kf : Nat) (P : σ → Prop) (r : σ → SV) (post : σ → List Asn → List Asn) : Prop where
  fr : ∀ z R, post z R = post z [] ++ R
  run : ∀ (k : Nat) (c : Cx) (S : Fn) (vals : Vals), kf ≤ k → JC k c S vals Hf f svs fun v v1 H1 => v1 = vals ∧ ∃ z, P z ∧ v = r z ∧ H1 = post z []
section
variable {σ : Type} {f : Value} {svs : List SV} {Hf : List Asn} {kf : Nat} {P : σ → Prop} {r : σ → SV} {post : σ → List Asn → List Asn} {k : Nat} {c : Cx} {S : Fn} {vals : Vals} {H R : List Asn} {Q : QE}
theorem Sp.use (sp : Sp f svs Hf kf P r post) (t : Take Hf H R) (hk : kf ≤ k) (q : ∀ z, P z → Q (r z) vals (post z R)) : JC k c S vals H f svs Q := fun vs is =>
  J.perm t.perm (J.frame ((sp.run k c S vals hk vs is).mono fun v v1 H1 ⟨e1, z, p, e2, e3⟩ => by
    subst e1 e2 e3
    rw [← sp.fr]
    exact q z p))
theorem Sp.mono {σ' : Type} {P' : σ' → Prop} {r' : σ' → SV} {post' : σ' → List Asn → List Asn} (sp : Sp f svs Hf kf P r post) (fr : ∀ z R, post' z R = post' z [] ++ R) (h : ∀ z, P z → ∃ z', P' z' ∧ r z = r' z' ∧ post z [] = post' z' []) : Sp f svs Hf kf P' r' post' where
  fr := fr
  run := fun k c S vals hk vs is => (sp.run k c S vals hk vs is).mono fun v v1 H1 ⟨e1, z, p, e2, e3⟩ => by
    obtain ⟨z', p', e4, e5⟩ := h z p
    exact ⟨e1, z', p', e2.trans e4, e3.trans e5⟩
end
def FlV : Fl → SV
  | .ret v => v
  | _ => .none
def EndQ {σ : Type} (P : σ → Prop) (r : σ → SV) (post : σ → List Asn → List Asn) : QF := fun fl _ H => ∃ z, P z ∧ FlV fl = r z ∧ Ent H (post z [])
theorem EndQ.mk {σ : Type} {P : σ → Prop} {r : σ → SV} {post : σ → List Asn → List Asn} {fl : Fl} {v : Vals} {H : List Asn} (z : σ) (hp : P z) (e : FlV fl = r z) (h : Ent H (post z [])) : EndQ P r post fl v H := ⟨z, hp, e, h⟩
section
variable {σ : Type} {f : Addr} {svs : List SV} {Hf : List Asn} {kb : Nat} {P : σ → Prop} {r : σ → SV} {post : σ → List Asn → List Asn}
  {name qual : Str} {params : Arguments} {body : List Stmt} {scope : Scope} {dV kV doc pm cdv ct oc : Value} {an od : Option Addr} {osl : Array (Option Value)} {nm : List Str} {vals0 : Vals} {bn : List Value → List (Str × Value)}
/-- what stands of a def in the written part -/
structure FnAt (f : Addr) (name qual : Str) (params : Arguments) (body : List Stmt) (scope : Scope) (dV kV doc pm cdv ct oc : Value) (an od : Option Addr) (osl : Array (Option Value)) (nm : List Str) : Prop where
  ho : ∀ w, List.lookup f (KF w) = some ⟨oc, od, .func (fnOf name qual params body scope dV kV doc pm an cdv ct), osl⟩
  hcd : ∀ w, codeIn (KF w) cdv qual = true
  hS : Fn.Ok ⟨qual, scope, nm, none⟩
  hco : scope.isCoroutine = false
  hgen : scope.isGenerator = false
  hcell : (scope.names.all fun x => decide (x.2 ≠ .cell)) = true
theorem Sp.enter (X : FnAt f name qual params body scope dV kV doc pm cdv ct oc an od osl nm)
    (hbind : ∀ w (s : Shared), (KF w).In s.heap → ∀ vs, IsAll vs svs → BindsTo s (fnOf name qual params body scope dV kV doc pm an cdv ct) ⟨vs, []⟩ (bn vs))
    (hloc : ∀ vs, IsAll vs svs → ((bn vs).all fun x => decide (scope.names.lookup x.1 = some .local)) = true)
    (hv : ∀ vs, IsAll vs svs → Slots nm vals0 (fun y => List.lookup y (bn vs).reverse))
    {A' : Around} {k : Nat} {c : Cx} {S : Fn} {vals : Vals} (ok : Ok k c S) (hA : A'.handled = none ∧ A'.frames = c.A.frames ∧ A'.depth ≤ c.A.depth + 1 ∧ A'.units ≤ c.A.units + 8) (hk : kb + 2 ≤ k) {Qv : Fl → Prop}
    {H1 F : List Asn} {s : Shared} {vs : List Value} (is : IsAll vs svs) {RR : Result → Shared → Prop} (g : good c S s vals (H1 ++ F))
    (jb : ∀ c' : Cx, JF kb c' ⟨qual, scope, nm, none⟩ vals0 H1 (execs body (c'.env ⟨qual, scope, nm, none⟩)) fun fl _ H' => ∃ z, P z ∧ Qv fl ∧ FlV fl = r z ∧ Ent H' (post z []))
    (back : ∀ v z s', P z → Is v (r z) → good c S s' vals (post z [] ++ F) → RR (.ok (.ret v)) s') : codeAny (model PR c.w) A' (.call (.ref f) ⟨vs, []⟩) RR s := by
  obtain ⟨mv, N, e, Fm, NN, nd, st, sl⟩ := g.open_
  have r1 := ok.room
  have r2 := ok.units
  refine code_def (env := c.env S) (outer := c.outer) ok.B Fm ok.X NN ok.T (hA.2.1.trans ok.frames) rfl ok.fn.kind (X.ho _) (X.hcd _) (by have := hA.2.2.1; omega) (hbind c.w s (good.inK ok g) vs is) (locs (hloc vs is)) ?_ X.hco X.hgen X.hS.kind (fun x hx => of_decide_eq_true (List.all_eq_true.mp X.hcell x hx))
  intro g' L' h' FG F' N' B' X' T'
  have okc : Ok kb ⟨c.w, A'.deeper (envOf qual scope L' f cdv), f, cdv, [], c.env S :: c.outer, c.A, c.base, g', L', c.gens, c.drawn, c.os, c.mean, c.mg, c.mb⟩ ⟨qual, scope, nm, none⟩ := {
    handled := hA.1
    frames := by show (A'.frames.map _) = _; rw [hA.2.1, ok.frames]; rfl
    B := ⟨ok.frames, B'.stays, B'.frames⟩
    X := X'
    T := T'
    room := by show A'.depth + 1 + kb < _; have := hA.2.2.1; omega
    units := by show A'.units + 3 + 8 * kb < _; have := hA.2.2.2; omega
    fn := X.hS }
  have gc : good ⟨c.w, A'.deeper (envOf qual scope L' f cdv), f, cdv, [], c.env S :: c.outer, c.A, c.base, g', L', c.gens, c.drawn, c.os, c.mean, c.mg, c.mb⟩ ⟨qual, scope, nm, none⟩ { s with heap := h', toks := s.toks + (bn vs).length } vals0 (H1 ++ F) := by
    rw [e]; exact ⟨h', _, _, N, rfl, F', N', nd, st, hv vs is, fun _ e => nomatch e⟩
  refine wpAny_mono (jb _ okc F _ gc) (fun fl s' ⟨b, v', H', hf, ⟨z, hp, _, ev, en⟩, g2⟩ => ?_) fun _ _ x => x.elim
  obtain ⟨h2, tk2, mv2, N2, e2, F2, NN2, nd2, st2, sl2⟩ := g2.ent (en.app F)
  subst e2
  refine ⟨L', mv2, N2, F2, NN2, fun Fa Na => back _ z _ hp (by rw [← ev]; cases fl <;> cases b <;> first | exact hf | exact hf.elim | rfl) ?_⟩
  exact ⟨h2, tk2, mv, N2, rfl, Fa, Na, nd2, st2, sl⟩
theorem Sp.intro (X : FnAt f name qual params body scope dV kV doc pm cdv ct oc an od osl nm) (bn : List Value → List (Str × Value)) (vals0 : Vals)
    (fr : ∀ z R, post z R = post z [] ++ R)
    (hbind : ∀ w (s : Shared), (KF w).In s.heap → ∀ vs, IsAll vs svs → BindsTo s (fnOf name qual params body scope dV kV doc pm an cdv ct) ⟨vs, []⟩ (bn vs))
    (hloc : ∀ vs, IsAll vs svs → ((bn vs).all fun x => decide (scope.names.lookup x.1 = some .local)) = true)
    (hv : ∀ vs, IsAll vs svs → Slots nm vals0 (fun y => List.lookup y (bn vs).reverse))
    (jb : ∀ c' : Cx, JF kb c' ⟨qual, scope, nm, none⟩ vals0 Hf (execs body (c'.env ⟨qual, scope, nm, none⟩)) (EndQ P r post)) : Sp (.ref f) svs Hf (kb + 2) P r post where
  fr := fr
  run := fun k c S vals hk vs is ok F s g => wpAny_call (Sp.enter (kb := kb) (P := P) (r := r) (post := post) X hbind hloc hv ok ⟨ok.handled, rfl, Nat.le_succ _, Nat.le_add_right _ _⟩ hk (Qv := fun _ => True) is g
    (fun c' => (jb c').mono fun fl v1 H1 ⟨z, a, b, d⟩ => ⟨z, a, trivial, b, d⟩) fun v z s' hp hv' g' => ⟨r z, vals, post z [], hv', ⟨rfl, z, hp, rfl, rfl⟩, g'⟩)
end
-- classes
structure ClsAt (C fI : Addr) : Prop where
  h1 : ∀ w, makesIn (KF w) C = true
  h2 : ∀ w, findIn (KF w) (.ref C) (Str.ofString "__init__") = some (some (.ref fI))
  h3 : ∀ w, isFn (KF w) (.ref fI) = true
section
variable {σ : Type} {C f : Addr} {svs : List SV} {Hf : List Asn} {kb : Nat} {P : Addr → σ → Prop} {post : Addr → σ → List Asn → List Asn}
  {name qual : Str} {params : Arguments} {body : List Stmt} {scope : Scope} {dV kV doc pm cdv ct oc : Value} {an od : Option Addr} {osl : Array (Option Value)} {nm : List Str} {vals0 : Addr → Vals} {bn : List Value → List (Str × Value)}
theorem Sp.introC (K : ClsAt C f) (X : FnAt f name qual params body scope dV kV doc pm cdv ct oc an od osl nm) (bn : List Value → List (Str × Value)) (vals0 : Addr → Vals)
    (fr : ∀ x z R, post x z R = post x z [] ++ R)
    (hbind : ∀ x w (s : Shared), (KF w).In s.heap → ∀ vs, IsAll vs (.ref x :: svs) → BindsTo s (fnOf name qual params body scope dV kV doc pm an cdv ct) ⟨vs, []⟩ (bn vs))
    (hloc : ∀ x vs, IsAll vs (.ref x :: svs) → ((bn vs).all fun x => decide (scope.names.lookup x.1 = some .local)) = true)
    (hv : ∀ x vs, IsAll vs (.ref x :: svs) → Slots nm (vals0 x) (fun y => List.lookup y (bn vs).reverse))
    (jb : ∀ (x : Addr) (c' : Cx), JF kb c' ⟨qual, scope, nm, none⟩ (vals0 x) (OB x C [] :: Hf) (execs body (c'.env ⟨qual, scope, nm, none⟩)) fun fl _ H1 => fl = .next ∧ ∃ z, P x z ∧ Ent H1 (post x z [])) :
    Sp (.ref C) svs Hf (kb + 3) (fun z : Addr × σ => P z.1 z.2) (fun z => .ref z.1) (fun z => post z.1 z.2) where
  fr := fun z R => fr z.1 z.2 R
  run := fun k c S vals hk vs is ok F s g => by
    obtain ⟨mv, N, e, Fm, NN, nd, st, sl⟩ := g.open_
    refine call_cls Fm ok.X NN (K.h1 _) (K.h2 _) (K.h3 _) fun x dx h' F' N' lt lt2 => ?_
    have g1 : good c S { s with heap := h' } vals (OB x C [] :: Hf ++ F) := by
      refine good.mk e F' N' ?_ ⟨[(x, instObj C dx), (dx, dictOf [] 0)], N, rfl, ⟨dx, [], rfl, trivial, List.nodup_nil⟩, st⟩ sl
      refine List.nodup_cons.mpr ⟨fun q => ?_, List.nodup_cons.mpr ⟨fun q => ?_, nd⟩⟩
      · rcases List.mem_cons.mp q with q | q
        · have h2 : @LT.lt Nat _ dx x := lt2
          have h1 : @Eq Nat x dx := q
          omega
        · obtain ⟨p, hp, e1⟩ := List.mem_map.mp q
          have h1 : @LT.lt Nat _ p.1 dx := lt p hp
          have h2 : @LT.lt Nat _ dx x := lt2
          have h3 : @Eq Nat p.1 x := e1
          omega
      · obtain ⟨p, hp, e1⟩ := List.mem_map.mp q
        have h1 : @LT.lt Nat _ p.1 dx := lt p hp
        have h3 : @Eq Nat p.1 dx := e1
        omega
    refine Sp.enter (A' := c.A.under (Code.builtin "type.__call__" { pos := .ref C :: vs, kw := [] })) (kb := kb) (P := P x) (r := fun _ => .none) (post := post x) X (hbind x) (hloc x) (hv x) (k := k - 1) (c := c) (S := S) (vals := vals) { ok with room := by have := ok.room; omega, units := by have := ok.units; omega } ⟨ok.handled, rfl, Nat.le_refl _, ?_⟩ (by omega) (Qv := fun _ => True) (vs := .ref x :: vs) ⟨rfl, is⟩ g1
      (fun c' => (jb x c').mono fun fl v1 H1 ⟨e1, z, a, d⟩ => ⟨z, a, trivial, by rw [e1]; rfl, d⟩) fun v z s' hp hv' g' => ?_
    · show c.A.units + _ ≤ c.A.units + 8
      exact Nat.add_le_add_left (Nat.le_of_ble_eq_true rfl) _
    · exact ⟨hv', .ref x, vals, post x z [], rfl, ⟨rfl, (x, z), hp, rfl, rfl⟩, g'⟩
end
section
variable {k : Nat} {c : Cx} {S : Fn} {vals : Vals} {H H' : List Asn}
-- while
def WQ {σ : Type} (vI : σ → Vals) (HI : σ → List Asn) (P : σ → Prop) (μ : σ → Nat) (z : σ) (Q : QF) : QF
  | .ret r, v, H => Q (.ret r) v H
  | .brk, v, H => Q .next v H
  | _, v, H => ∃ z', P z' ∧ μ z' < μ z ∧ Le v (vI z') ∧ Ent H (HI z')
theorem J.whil {σ : Type} {test : Expr} {body : List Stmt} {pos : Pos} {rest : List Stmt} {Q : QF} (vI : σ → Vals) (HI : σ → List Asn) (P : σ → Prop) (μ : σ → Nat) (z₀ : σ) (hp : P z₀) (l0 : Le vals (vI z₀)) (e0 : Ent H (HI z₀))
    (turn : ∀ z, P z → JT k c S (vI z) (HI z) (PySem.isTrue test (c.env S) (eval test (c.env S))) (fun v1 H1 => JF k c S v1 H1 (execs body (c.env S)) (WQ vI HI P μ z (Seq k c S (c.env S) rest Q))) (fun v1 H1 => JF k c S v1 H1 (execs rest (c.env S)) Q)) :
    JF k c S vals H (execs (.While test body [] pos :: rest) (c.env S)) Q := J.cons fun ok F s g => by
  obtain ⟨mv, N, e, Fm, NN, nd, st, sl⟩ := ((g.le l0).ent (e0.app F)).open_
  refine While_inv2 (L := c.L) (fun n m nx => ∃ z, P z ∧ μ z = n ∧ (nx.map (·.1)).Nodup ∧ Star (HI z ++ F) nx ∧ SL S (vI z) m) Fm NN ⟨z₀, hp, rfl, nd, st, sl⟩ ?_ .never
  rintro n m₁ nx h₁ tk₁ F₁ N₁ ⟨z, hz, rfl, nd1, st1, sl1⟩
  have g1 : good c S { s with heap := h₁, toks := tk₁ } (vI z) (HI z ++ F) := good.mk e F₁ N₁ nd1 st1 sl1
  refine wpAny_mono (turn z hz ok F _ g1) (fun b s₂ ⟨b', v2, H2, eb, q, g2⟩ => ?_) fun _ _ x => x
  subst eb
  cases b with
  | false => exact ⟨.next, v2, H2, trivial, q, g2⟩
  | true =>
    refine wpAny_mono (q ok F _ g2) (fun f s₃ ⟨fl, v3, H3, hf, q3, g3⟩ => ?_) fun _ _ x => x
    have fin : (∃ z', P z' ∧ μ z' < μ z ∧ Le v3 (vI z') ∧ Ent H3 (HI z')) → ∃ h' tk m₂ news₂ n', s₃ = { s with heap := h', toks := tk } ∧ Fr c.h₀ c.L h' m₂ ∧ News c.h₀ c.L h' news₂ ∧ n' < μ z ∧ ∃ z, P z ∧ μ z = n' ∧ (news₂.map (·.1)).Nodup ∧ Star (HI z ++ F) news₂ ∧ SL S (vI z) m₂ := by
      rintro ⟨z', hz', hm, hl, he⟩
      obtain ⟨h4, tk4, mv4, N4, e4, F4, NN4, nd4, st4, sl4⟩ := (g3.le hl).ent (he.app F)
      refine ⟨h4, tk4, mv4, N4, μ z', ?_, F4, NN4, hm, z', hz', rfl, nd4, st4, sl4⟩
      rw [e4, e]
    cases f with
    | next => cases fl with
      | next => exact fin q3
      | _ => exact hf.elim
    | cont => cases fl with
      | cont => exact fin q3
      | _ => exact hf.elim
    | brk => cases fl with
      | brk => exact ⟨.next, v3, H3, trivial, q3, g3⟩
      | _ => exact hf.elim
    | ret v => cases fl with
      | ret u => exact ⟨.ret u, v3, H3, hf, q3, g3⟩
      | _ => exact hf.elim
end
def EX (own : Led) : Asn := fun N => N = own
theorem dedup_led : ∀ (own : Led), (∀ p ∈ own, ∀ q ∈ own, p.1 = q.1 → p = q) → ∃ own' : Led, (∀ p, p ∈ own' ↔ p ∈ own) ∧ (own'.map (·.1)).Nodup
  | [], _ => ⟨[], fun _ => Iff.rfl, List.nodup_nil⟩
  | p :: own, h => by
    obtain ⟨own', h1, h2⟩ := dedup_led own fun a ha b hb => h a (.tail _ ha) b (.tail _ hb)
    rcases Classical.em (p ∈ own) with c | c
    · exact ⟨own', fun q => (h1 q).trans ⟨.tail _, fun hq => by
        rcases List.mem_cons.mp hq with rfl | hq
        · exact c
        · exact hq⟩, h2⟩
    · refine ⟨p :: own', fun q => ?_, List.nodup_cons.mpr ⟨fun hm => ?_, h2⟩⟩
      · rw [List.mem_cons, List.mem_cons, h1]
      · obtain ⟨q, hq, e⟩ := List.mem_map.mp hm
        have hq' := (h1 q).mp hq
        exact c ((h p (.head _) q (.tail _ hq') e.symm) ▸ hq')
section
variable {k : Nat} {c : Cx} {S : Fn} {vals : Vals} {H H' : List Asn}
def FQ {σ : Type} (vI : σ → Vals) (HI : σ → List Asn) (PI : Nat → σ → Prop) (i : Nat) (Q : QF) : QF
  | .ret r, v, H => Q (.ret r) v H
  | .brk, v, H => Q .next v H
  | _, v, H => ∃ z', PI i z' ∧ Le v (vI z') ∧ Ent H (HI z')
theorem loopJ {σ : Type} {x : Str} {body : List Stmt} {Q : QF} {I : Addr} {fp wr : List Addr} {n : Nat} {Pv : Nat → Value → Prop} {St : Nat → Heap → Prop} {F : List Asn} {s₂ : Shared} {mv : Map} {N : Led}
    (ok : Ok k c S) (hfz : S.frz = none) (vI : σ → Vals) (HI : σ → List Asn) (PI : Nat → σ → Prop) (z₀ : σ) (hz : PI 0 z₀)
    (W : Walks PR c.w c.A I fp wr n Pv St) (hL : c.L ∉ fp) (hnew : ∀ b ∈ fp, c.h₀.get? b = none) (hob : ∀ i h, St i h → ∀ b ∈ fp, ∃ o, h.get? b = some o) (hst : St 0 s₂.heap)
    (e : s₂ = ⟨s₂.heap, c.gens, c.drawn, s₂.toks, c.os⟩) (Fm : Fr c.h₀ c.L s₂.heap mv) (NN : News c.h₀ c.L s₂.heap N) (nd : (N.map (·.1)).Nodup) (st : Star (HI z₀ ++ F) N) (sl : SL S (vI z₀) mv) (hdis : ∀ p ∈ N, p.1 ∉ fp)
    (turn : ∀ i z v, i < n → PI i z → Pv i v → ∃ u v1, Is v u ∧ Put S.nm (vI z) x u v1 ∧ JF k c S v1 (HI z) (execs body (c.env S)) (FQ vI HI PI (i + 1) Q))
    (done : ∀ z, PI n z → Q .next (vI z) (HI z)) :
    LoopAtV PR c.w c.A c.h₀ (c.env S) x body (fun a s' => ∃ b vals' H', FlIs a b ∧ Q b vals' H' ∧ good c S s' vals' (H' ++ F)) (fun _ _ => False) (.ref I) s₂ := by
  refine ⟨I, fp, wr, n, Pv, St, mv, N, fun i m nx => ∃ z, PI i z ∧ (nx.map (·.1)).Nodup ∧ Star (HI z ++ F) nx ∧ SL S (vI z) m ∧ ∀ p ∈ nx, p.1 ∉ fp, rfl, W, hL, fun b hb => hnew b (W.sub b hb), fun p hp hw => hdis p hp (W.sub _ hw), hst, Fm, NN, ⟨z₀, hz, nd, st, sl, hdis⟩, ?_, ?_⟩
  · rintro i v m₁ news₁ s₁ own ⟨h1, tk1, rfl⟩ hi hP ⟨z, hz, nd1, st1, sl1, hd1⟩ _ hsub hget hall hst1 F₁ N₁
    obtain ⟨u, v1, iu, hp, hj⟩ := turn i z v hi hz hP
    obtain ⟨own', hm, hnd⟩ := dedup_led own fun p hp q hq e' => by
      have e1 := hget p hp
      have e2 := hget q hq
      rw [← e', e1] at e2
      exact Prod.ext e' (Option.some.inj e2)
    have hcov : ∀ b ∈ fp, ∃ p ∈ own', p.1 = b := fun b hb => by
      obtain ⟨o, ho⟩ := hob _ _ hst1 b hb
      exact ⟨(b, o), (hm _).mpr (hall b hb (hnew b hb) o ho), rfl⟩
    have g1 : good c S { s₂ with heap := h1, toks := tk1 } v1 (HI z ++ (F ++ [EX own'])) := by
      refine good.mk (N := news₁ ++ own') e F₁ (fun p hp => ?_) ?_ ?_ ⟨hp.ok ok.fn.nd sl1.1 iu, fun _ e => nomatch hfz.symm.trans e⟩
      · rcases List.mem_append.mp hp with hp | hp
        · exact N₁ p (List.mem_append.mpr (.inr hp))
        · exact N₁ p (List.mem_append.mpr (.inl ((hm p).mp hp)))
      · rw [List.map_append]
        refine List.nodup_append.mpr ⟨nd1, hnd, fun a ha b hb e' => ?_⟩
        obtain ⟨p, hp, rfl⟩ := List.mem_map.mp ha
        obtain ⟨q, hq, rfl⟩ := List.mem_map.mp hb
        exact hd1 p hp (e' ▸ hsub q ((hm q).mp hq))
      · rw [← List.append_assoc]
        exact Star.app.mpr ⟨news₁, own', rfl, st1, own', [], (List.append_nil _).symm, rfl, rfl⟩
    refine wpAny_mono (hj ok (F ++ [EX own']) _ g1) (fun f s₃ ⟨fl, v3, H3, hf, q3, g3⟩ => ?_) fun _ _ x => x
    have fin : (∃ z', PI (i + 1) z' ∧ Le v3 (vI z') ∧ Ent H3 (HI z')) → LoopStepU c.h₀ c.L wr own (fun m nx => ∃ z, PI (i + 1) z ∧ (nx.map (·.1)).Nodup ∧ Star (HI z ++ F) nx ∧ SL S (vI z) m ∧ ∀ p ∈ nx, p.1 ∉ fp) { s₂ with heap := h1, toks := tk1 } .next s₃ := by
      rintro ⟨z', hz', hl, he⟩
      obtain ⟨h4, tk4, mv4, N4, e4, F4, NN4, nd4, st4, sl4⟩ := (g3.le hl).ent (he.app _)
      rw [← List.append_assoc] at st4
      obtain ⟨Na, Nb, rfl, sa, Nc, Nd, rfl, hc, hd⟩ := Star.app.mp st4
      have hc : Nc = own' := hc
      have hd : Nd = [] := hd
      subst hc hd
      rw [List.append_nil, List.map_append] at nd4
      obtain ⟨n1, n2, n3⟩ := List.nodup_append.mp nd4
      have hdn : ∀ p ∈ Na, p.1 ∉ fp := fun p hp hb => by
        obtain ⟨q, hq, e'⟩ := hcov _ hb
        exact n3 p.1 (List.mem_map.mpr ⟨p, hp, rfl⟩) q.1 (List.mem_map.mpr ⟨q, hq, rfl⟩) e'.symm
      rw [e4, show (⟨h4, c.gens, c.drawn, tk4, c.os⟩ : Shared) = { ({ s₂ with heap := h1, toks := tk1 } : Shared) with heap := h4, toks := tk4 } by rw [e]]
      refine LoopStepU.intro (h' := h4) (tk := tk4) (m₂ := mv4) (news₂ := Na) F4 (fun p hp => ?_) (fun p hp hw => hdn p hp (W.sub _ hw)) ⟨z', hz', n1, sa, sl4, hdn⟩
      rcases List.mem_append.mp hp with hp | hp
      · exact NN4 p (List.mem_append.mpr (.inr (List.mem_append.mpr (.inl ((hm p).mpr hp)))))
      · exact NN4 p (List.mem_append.mpr (.inl hp))
    have out : good c S s₃ v3 (H3 ++ F) := by
      rw [← List.append_assoc] at g3
      exact g3.ent .dropL
    cases f with
    | next => cases fl with
      | next => exact .next (fin q3)
      | _ => exact hf.elim
    | cont => cases fl with
      | cont => exact .cont (fin q3)
      | _ => exact hf.elim
    | brk => cases fl with
      | brk => exact .brk ⟨.next, v3, H3, trivial, q3, out⟩
      | _ => exact hf.elim
    | ret v => cases fl with
      | ret u => exact .ret ⟨.ret u, v3, H3, hf, q3, out⟩
      | _ => exact hf.elim
  · rintro h' tk m' news' F' N' _ ⟨z, hz, nd1, st1, sl1, _⟩
    exact ⟨.next, vI z, HI z, trivial, done z hz, good.mk e F' N' nd1 st1 sl1⟩
-- ranges
abbrev rangeO (a b : Int) (t u v : Tok) : Obj := { cls := .type "range", dict := none, data := .fields #[.int a t, .int b u, .int 1 v], slots := #[] }
def RG (r : Addr) (a b : Int) : Asn := fun N => ∃ t u v, N = [(r, rangeO a b t u v)]
theorem good.fresh {s : Shared} {h' : Heap} {tk : Nat} {mv : Map} {N : Led} {a : Asn} {o : Obj} (e : s = ⟨s.heap, c.gens, c.drawn, s.toks, c.os⟩) (Fm : Fr c.h₀ c.L s.heap mv) (NN : News c.h₀ c.L s.heap N) (F' : Fr c.h₀ c.L h' mv) (N' : News c.h₀ c.L h' N) (ho : h'.get? s.heap.objs.size = some o) (nd : (N.map (·.1)).Nodup) (st : Star H N) (sl : SL S vals mv) (ha : a [(s.heap.objs.size, o)]) : good c S { s with heap := h', toks := tk } vals (a :: H) :=
  good.new e F' (fun p hp => by
    rcases List.mem_cons.mp hp with rfl | hp
    · exact ⟨ho, fun q => Nat.lt_irrefl _ (Nat.lt_of_lt_of_eq Fm.ns.lt q), next_is_new Fm⟩
    · exact N' p hp) (fun p hp => Heap.lt_size (NN p hp).1) nd st sl ha
theorem JC.range2 {a b : Int} {Q : QE} (q : ∀ D, Q (.ref D) vals (RG D a b :: H)) : JC k c S vals H (.type "range") [.int a, .int b] Q := by
  rintro vs is ok F s g
  match vs, is with
  | [x, y], ⟨⟨t, ea⟩, ⟨u, eb⟩, _⟩ =>
    subst ea eb
    obtain ⟨mv, N, e, Fm, NN, nd, st, sl⟩ := g.open_
    exact range2_rows Fm NN fun h' tk t1 u1 v1 hr F' N' _ => ⟨.ref s.heap.objs.size, vals, _, rfl, q _, good.fresh e Fm NN F' N' hr nd st sl ⟨_, _, _, rfl⟩⟩
theorem JC.range1 {b : Int} {Q : QE} (q : ∀ D, Q (.ref D) vals (RG D 0 b :: H)) : JC k c S vals H (.type "range") [.int b] Q := by
  rintro vs is ok F s g
  match vs, is with
  | [x], ⟨⟨t, ea⟩, _⟩ =>
    subst ea
    obtain ⟨mv, N, e, Fm, NN, nd, st, sl⟩ := g.open_
    exact range1_rows Fm NN fun h' tk t1 u1 v1 hr F' N' _ => ⟨.ref s.heap.objs.size, vals, _, rfl, q _, good.fresh e Fm NN F' N' hr nd st sl ⟨_, _, _, rfl⟩⟩
def RanV (k : Nat) (c : Cx) (S : Fn) (vals : Vals) (H : List Asn) (r : SV) (x : Str) (body : List Stmt) (Q : QF) : Prop :=
  ∃ (I : Addr) (a b : Int) (H' : List Asn) (σ : Type) (vI : σ → Vals) (HI : σ → List Asn) (PI : Nat → σ → Prop) (z₀ : σ), r = .ref I ∧ Sel (RG I a b) H H' ∧ (-100000 ≤ a ∧ a ≤ 100000 ∧ -100000 ≤ b ∧ b ≤ 100000) ∧ PI 0 z₀ ∧ Le vals (vI z₀) ∧ Ent H' (HI z₀) ∧
    (∀ (i : Nat) z, (i : Int) < b - a → PI i z → ∃ v1, Put S.nm (vI z) x (.int (a + i)) v1 ∧ JF k c S v1 (HI z) (execs body (c.env S)) (FQ vI HI PI (i + 1) Q)) ∧ ∀ z, PI (b - a).toNat z → Q .next (vI z) (HI z)
theorem RanV.mk {x : Str} {body : List Stmt} {Q : QF} {I : Addr} {a b : Int} {H' : List Asn} {σ : Type} (vI : σ → Vals) (HI : σ → List Asn) (PI : Nat → σ → Prop) (z₀ : σ) (hs : Sel (RG I a b) H H') (hb : -100000 ≤ a ∧ a ≤ 100000 ∧ -100000 ≤ b ∧ b ≤ 100000) (h0 : PI 0 z₀) (l0 : Le vals (vI z₀)) (e0 : Ent H' (HI z₀))
    (turn : ∀ (i : Nat) z, (i : Int) < b - a → PI i z → ∃ v1, Put S.nm (vI z) x (.int (a + i)) v1 ∧ JF k c S v1 (HI z) (execs body (c.env S)) (FQ vI HI PI (i + 1) Q)) (done : ∀ z, PI (b - a).toNat z → Q .next (vI z) (HI z)) : RanV k c S vals H (.ref I) x body Q :=
  ⟨I, a, b, H', σ, vI, HI, PI, z₀, rfl, hs, hb, h0, l0, e0, turn, done⟩
theorem good.off {s : Shared} {I : Addr} {o : Obj} {a : Asn} (g : good c S s vals (a :: H)) (ha : ∀ N, a N → ∃ o, N = [(I, o)]) : ∃ mv N o, s = ⟨s.heap, c.gens, c.drawn, s.toks, c.os⟩ ∧ Fr c.h₀ c.L s.heap mv ∧ News c.h₀ c.L s.heap N ∧ (N.map (·.1)).Nodup ∧ Star H N ∧ SL S vals mv ∧ a [(I, o)] ∧ s.heap.get? I = some o ∧ (I ≠ c.L ∧ c.h₀.get? I = none) ∧ ∀ p ∈ N, p.1 ≠ I := by
  obtain ⟨mv, N, e, Fm, NN, nd, ⟨N1, N2, rfl, h1, h2⟩, sl⟩ := g.open_
  obtain ⟨o, rfl⟩ := ha _ h1
  have nd' := List.nodup_cons.mp nd
  have z := NN (I, o) (.head _)
  exact ⟨mv, N2, o, e, Fm, fun p hp => NN p (.tail _ hp), nd'.2, h2, sl, h1, z.1, z.2, fun p hp e' => nd'.1 (List.mem_map.mpr ⟨p, hp, e'⟩)⟩
theorem J.forR {x : Str} {px pos : Pos} {iter : Expr} {body : List Stmt} {rest : List Stmt} {Q : QF} (hx : x ∈ S.nm) (h : JE k c S vals H (eval iter (c.env S)) fun r v1 H1 => RanV k c S v1 H1 r x body (Seq k c S (c.env S) rest Q))
    (hs : ∀ x, foldedSetIterable iter (c.env S) x = pure x := by intro _; rfl) (hz : S.frz = none := by rfl) : JF k c S vals H (execs (.For (.Name x px) iter body [] pos :: rest) (c.env S)) Q := J.cons fun ok F s g => by
  obtain ⟨mv0, N0, e0', Fm0, _, _, _, _⟩ := g.open_
  refine For_invVF (h₀ := c.h₀) Fm0 (ok.fn.loc x hx).1 (by show (S.cs.kind == .class || (S.cs.kind == .module && _)) = false; rw [ok.fn.kind]; rfl) (wpAny_mono (h ok F s g) (fun a s1 ⟨r, v1, H1, ia, ⟨I, a0, b0, H2, σ, vI, HI, PI, z₀, er, hsel, hb, h0, l0, en, turn, done⟩, g1⟩ => ?_) fun _ _ x => x) hs .never
  subst er
  have ia : a = .ref I := ia
  subst ia
  have g2 : good c S s1 (vI z₀) (RG I a0 b0 :: (HI z₀ ++ F)) := by
    have g3 : good c S s1 v1 (RG I a0 b0 :: H2 ++ F) := g1.perm (hsel.perm.append_right _)
    have g4 : good c S s1 v1 ((H2 ++ F) ++ [RG I a0 b0]) := g3.perm (by
      rw [List.cons_append]; exact (List.perm_append_comm (l₁ := [RG I a0 b0]) (l₂ := H2 ++ F)))
    have g5 := (g4.le l0).ent ((en.app F).app [RG I a0 b0])
    exact g5.perm (List.perm_append_comm (l₁ := HI z₀ ++ F) (l₂ := [RG I a0 b0]))
  obtain ⟨mv, N, o, e, Fm, NN, nd, st, sl, ⟨t, u, v, eo⟩, ho, hI, hdis⟩ := g2.off (fun N ⟨t, u, v, e⟩ => ⟨_, e⟩) (o := default)
  have eo : o = rangeO a0 b0 t u v := by simpa using eo
  subst eo
  obtain ⟨hb1, hb2, hb3, hb4⟩ := hb
  have hsm : Builtin.Range.small a0 b0 1 = true := small_one (by omega) (by omega) (by omega) (by omega)
  have hsz : Builtin.Range.rangeSize a0 b0 1 = ((b0 - a0).toNat : Int) := rangeSize_nat _ _
  refine wpAny_pyIter_range ho hsm ?_
  have W : Walks PR c.w c.A s1.heap.objs.size [s1.heap.objs.size] [s1.heap.objs.size] (b0 - a0).toNat (fun i v => i < (b0 - a0).toNat ∧ ∃ t, v = .int (a0 + i * 1) t)
      (fun i h => IsRangeIter h s1.heap.objs.size (a0 + (i : Nat) * 1) (((b0 - a0).toNat : Int) - (i : Nat)) 1) := (Walks.range ok.handled _ a0 1 _).bound
  refine loopJ (s₂ := { s1 with heap := s1.heap.push _ }) ok hz vI HI PI z₀ h0 W (fun hm => ?_) (fun b hb => ?_) (fun i h hi b hb => ?_) (by show IsRangeIter _ _ _ _ _; rw [hsz]; simpa using Heap.get?_push_size _ rfl) (by rw [e]) (Fm.push _) (fun p hp => ⟨Heap.get?_push_of_some _ (NN p hp).1, (NN p hp).2⟩) nd st sl (fun p hp hm => ?_) (fun i z v hi hz hP => ?_) done
  · exact absurd Fm.ns.lt ((List.mem_singleton.mp hm) ▸ Nat.lt_irrefl _)
  · rw [List.mem_singleton.mp hb]; exact next_is_new Fm
  · rw [List.mem_singleton.mp hb]; exact ⟨_, hi⟩
  · exact absurd (Heap.lt_size (NN p hp).1) ((List.mem_singleton.mp hm) ▸ Nat.lt_irrefl _)
  · obtain ⟨_, t', rfl⟩ := hP
    obtain ⟨w1, hp, hj⟩ := turn i z (by omega) hz
    exact ⟨.int (a0 + i), w1, ⟨t', by rw [Int.mul_one]⟩, hp, hj⟩
end
/-- a chunk: objects behind a name -/
def EXA {σ : Type} (P : σ → Prop) (f : σ → List Asn) : Asn := fun N => ∃ z, P z ∧ Star (f z) N
def Has (a : Asn) (x C : Addr) (n : Str) (v : SV) : Prop := ∀ N, a N → ∃ d es u, (x, instObj C d) ∈ N ∧ (d, dictOf es es.length) ∈ N ∧ getL n es = some (some u) ∧ Is u v
theorem Has.own {x C : Addr} {fs : List (Str × SV)} {n : Str} {v : SV} (hf : Fld fs n v) : Has (OB x C fs) x C n v := by
  rintro N ⟨d, es, rfl, i, hn⟩
  obtain ⟨u, hu, iu⟩ := i.get hf hn
  exact ⟨d, es, u, by simp, by simp, hu, iu⟩
theorem Has.exa {σ : Type} {P : σ → Prop} {f : σ → List Asn} {a : σ → Asn} {x C : Addr} {n : Str} {v : SV} (ha : ∀ z, At (f z) (a z)) (h : ∀ z, P z → Has (a z) x C n v) : Has (EXA P f) x C n v := by
  rintro N ⟨z, hz, st⟩
  obtain ⟨X, Y, Z, rfl, hY⟩ := (ha z).split st
  obtain ⟨d, es, u, h1, h2, h3⟩ := h z hz _ hY
  exact ⟨d, es, u, List.mem_append.mpr (.inr (List.mem_append.mpr (.inl h1))), List.mem_append.mpr (.inr (List.mem_append.mpr (.inl h2))), h3⟩
theorem Recv.exa {σ : Type} {P : σ → Prop} {f : σ → List Asn} {a : σ → Asn} {x C : Addr} {n : Str} (ha : ∀ z, At (f z) (a z)) (h : ∀ z, P z → Recv (a z) x C n) : Recv (EXA P f) x C n := by
  rintro N ⟨z, hz, st⟩
  obtain ⟨X, Y, Z, rfl, hY⟩ := (ha z).split st
  obtain ⟨d, es, h1, h2, h3⟩ := h z hz _ hY
  exact ⟨d, es, List.mem_append.mpr (.inr (List.mem_append.mpr (.inl h1))), List.mem_append.mpr (.inr (List.mem_append.mpr (.inl h2))), h3⟩
section
variable {k : Nat} {c : Cx} {S : Fn} {vals : Vals} {H H' R A : List Asn}
theorem GetV.has {x C : Addr} {a : Asn} {n : Str} {v : SV} {Q : QE} (ha : At H a) (hf : Has a x C n v) (hc : AttrOk C n none) (q : Q v vals H) (hv : v.handed = true := by rfl) : GetV k c S vals H (.ref x) n Q := by
  rintro a rfl ok F s g
  obtain ⟨mv, N, e, Fm, NN, nd, st, sl⟩ := g.open_
  obtain ⟨N1, N2, rfl, st1, st2⟩ := Star.app.mp st
  obtain ⟨X, Y, Z, rfl, hY⟩ := ha.split st1
  obtain ⟨d, es, u, h1, h2, hu, iu⟩ := hf _ hY
  exact get_own Fm ok.X (InstAt.of_news NN (List.mem_append.mpr (.inl (List.mem_append.mpr (.inr (List.mem_append.mpr (.inl h1)))))) (List.mem_append.mpr (.inl (List.mem_append.mpr (.inr (List.mem_append.mpr (.inl h2))))))) (hc.h1 _) (hc.h2 _) (hc.h3 _) (hc.h4 _) hu (SV.handed_of hv iu) ⟨v, vals, _, iu, q, g.tok⟩
theorem Ent.sel {a : Asn} (s : Sel a H R) (h : Ent R H') : Ent H (a :: H') := (Ent.perm s.perm).trans fun N nd st => by
  obtain ⟨N1, N2, rfl, h1, h2⟩ := st
  rw [List.map_append] at nd
  obtain ⟨n1, n2, n3⟩ := List.nodup_append.mp nd
  obtain ⟨N', s', nd', st'⟩ := h N2 n2 h2
  refine ⟨N1 ++ N', fun q hq => ?_, ?_, N1, N', rfl, h1, st'⟩
  · rcases List.mem_append.mp hq with hq | hq
    · exact List.mem_append.mpr (.inl hq)
    · exact List.mem_append.mpr (.inr (s' q hq))
  · rw [List.map_append]
    refine List.nodup_append.mpr ⟨n1, nd', fun a ha b hb => n3 a ha b ?_⟩
    obtain ⟨q, hq, rfl⟩ := List.mem_map.mp hb
    exact List.mem_map.mpr ⟨q, s' q hq, rfl⟩
theorem Ent.nil : Ent H [] := fun N nd st => ⟨[], (fun _ h => nomatch h), List.nodup_nil, rfl⟩
theorem Ent.fold {σ : Type} {P : σ → Prop} {f : σ → List Asn} (z : σ) (hz : P z) (t : Take (f z) H R) (h : Ent R H') : Ent H (EXA P f :: H') := (Ent.perm t.perm).trans fun N nd st => by
  obtain ⟨N1, N2, rfl, h1, h2⟩ := Star.app.mp st
  exact Ent.sel .hd h (N1 ++ N2) nd ⟨N1, N2, rfl, ⟨z, hz, h1⟩, h2⟩
theorem Ent.unf {σ : Type} {P : σ → Prop} {f : σ → List Asn} {N : Led} (nd : (N.map (·.1)).Nodup) (st : Star (EXA P f :: R) N) : ∃ z, P z ∧ Star (f z ++ R) N := by
  obtain ⟨N1, N2, rfl, ⟨z, hz, h1⟩, h2⟩ := st
  exact ⟨z, hz, Star.app.mpr ⟨N1, N2, rfl, h1, h2⟩⟩
theorem J.unf {α β : Type} {Rr : α → β → Prop} {t : Sem α} {Q : β → Vals → List Asn → Prop} {σ : Type} {P : σ → Prop} {f : σ → List Asn} (s : Sel (EXA P f) H R) (h : ∀ z, P z → J Rr k c S vals (f z ++ R) t Q) : J Rr k c S vals H t Q := J.perm s.perm fun ok F s g => by
  obtain ⟨hp, tk, mv, N, rfl, Fm, NN, nd, st, sl⟩ := g
  obtain ⟨N1, N2, rfl, ⟨z, hz, h1⟩, h2⟩ := st
  have h2' : Star (R ++ F) N2 := h2
  refine h z hz ok F _ ⟨hp, tk, mv, N1 ++ N2, rfl, Fm, NN, nd, ?_, sl⟩
  rw [List.append_assoc]
  exact Star.app.mpr ⟨N1, N2, rfl, h1, h2'⟩
end
-- the program's objects
abbrev st (s : String) : Str := Str.ofString s
abbrev bufF (g mr ls : Addr) (pt zv ti ci : Int) : List (Str × SV) := [(st "number", .int 1), (st "name", .str (st "a")), (st "text", .ref g), (st "markers", .ref mr), (st "point", .int pt), (st "begv", .int 1), (st "zv", .int zv), (st "mark", .none), (st "is_live", .bool true), (st "is_read_only", .bool false), (st "ticks", .int ti), (st "codes_ticks", .int ci), (st "saved_ticks", .int 1), (st "listeners", .ref ls), (st "undo", .none), (st "props", .none), (st "overlays", .none), (st "locals", .none), (st "syntax", .none), (st "file", .none)]
abbrev gapF (cl : Addr) (gs ge : Int) : List (Str × SV) := [(st "room", .int 8), (st "cells", .ref cl), (st "gap_start", .int gs), (st "gap_end", .int ge)]
structure BufZ where
  (g cl mr rw ls : Addr) (cs : List Int) (gs ge pt ti ci : Int)
/-- the cells, the gap and the text they stand for -/
def GOf (cs : List Int) (gs ge : Int) (text : List Int) : Prop := 0 ≤ gs ∧ gs ≤ ge ∧ ge ≤ (cs.length : Int) ∧ text = cs.take gs.toNat ++ cs.drop ge.toNat ∧ cs.length ≤ 1000
def bufH (b : Addr) (text : List Int) (z : BufZ) : List Asn := [OB b 515 (bufF z.g z.mr z.ls z.pt ((text.length : Int) + 1) z.ti z.ci), OB z.g 304 (gapF z.cl z.gs z.ge), LI z.cl z.cs, OB z.mr 374 [(st "rows", .ref z.rw)], DE z.rw, LI z.ls []]
def BUF (b : Addr) (text : List Int) : Asn := EXA (fun z : BufZ => GOf z.cs z.gs z.ge text) (bufH b text)
def LIT (x : Addr) (own : List Int) (f : Bool) : Asn := EXA (fun _ : Addr => own.length ≤ 10) fun lo => [OB x 178 [(st "codes", .ref lo), (st "is_folded", .bool f)], LI lo own]
theorem bufF_nd (g mr ls : Addr) (pt zv ti ci : Int) : ((bufF g mr ls pt zv ti ci).map (·.1)).Nodup := by
  show List.Nodup [st "number", st "name", st "text", st "markers", st "point", st "begv", st "zv", st "mark", st "is_live", st "is_read_only", st "ticks", st "codes_ticks", st "saved_ticks", st "listeners", st "undo", st "props", st "overlays", st "locals", st "syntax", st "file"]
  decide +kernel
section
variable {k : Nat} {c : Cx} {S : Fn} {vals : Vals} {H H' R A : List Asn} {b : Addr} {text : List Int}
theorem BUF.unf {α β : Type} {Rr : α → β → Prop} {t : Sem α} {Q : β → Vals → List Asn → Prop} (s : Sel (BUF b text) H R) (h : ∀ (g cl mr rw ls : Addr) (cs : List Int) (gs ge pt ti ci : Int), GOf cs gs ge text → J Rr k c S vals (OB b 515 (bufF g mr ls pt ((text.length : Int) + 1) ti ci) :: OB g 304 (gapF cl gs ge) :: LI cl cs :: OB mr 374 [(st "rows", .ref rw)] :: DE rw :: LI ls [] :: R) t Q) : J Rr k c S vals H t Q := J.unf s fun _ hz => h _ _ _ _ _ _ _ _ _ _ _ hz
theorem BUF.ent {g cl mr rw ls : Addr} {cs : List Int} {gs ge pt ti ci zv : Int} (t : Take [OB b 515 (bufF g mr ls pt zv ti ci), OB g 304 (gapF cl gs ge), LI cl cs, OB mr 374 [(st "rows", .ref rw)], DE rw, LI ls []] H R) (hz : GOf cs gs ge text) (e : zv = (text.length : Int) + 1) (h : Ent R H') : Ent H (BUF b text :: H') := by
  subst e
  exact Ent.fold (f := bufH b text) (P := fun z : BufZ => GOf z.cs z.gs z.ge text) ⟨g, cl, mr, rw, ls, cs, gs, ge, pt, ti, ci⟩ hz t h
theorem LIT.unf {α β : Type} {Rr : α → β → Prop} {t : Sem α} {Q : β → Vals → List Asn → Prop} {x : Addr} {own : List Int} {f : Bool} (s : Sel (LIT x own f) H R) (h : ∀ lo : Addr, own.length ≤ 10 → J Rr k c S vals (OB x 178 [(st "codes", .ref lo), (st "is_folded", .bool f)] :: LI lo own :: R) t Q) : J Rr k c S vals H t Q := J.unf s fun lo hz => h lo hz
theorem LIT.ent {x lo : Addr} {own : List Int} {f : Bool} (t : Take [OB x 178 [(st "codes", .ref lo), (st "is_folded", .bool f)], LI lo own] H R) (hz : own.length ≤ 10) (h : Ent R H') : Ent H (LIT x own f :: H') := Ent.fold (P := fun _ : Addr => own.length ≤ 10) (f := fun lo : Addr => [OB x 178 [(st "codes", .ref lo), (st "is_folded", .bool f)], LI lo own]) lo hz t h
theorem BUF.recv {n : Str} (h : ((bufF 0 0 0 0 0 0 0).map (·.1)).contains n = false := by decide +kernel) : Recv (BUF b text) b 515 n := Recv.exa (fun _ => At.hd) fun z _ => OB.recv fun hm => by
  have h1 : n ∈ (bufF 0 0 0 0 0 0 0).map (·.1) := hm
  rw [List.contains_iff_mem.mpr h1] at h
  cases h
theorem LIT.recv {x : Addr} {own : List Int} {f : Bool} {n : Str} (h : [st "codes", st "is_folded"].contains n = false := by decide +kernel) : Recv (LIT x own f) x 178 n := Recv.exa (fun _ => At.hd) fun z _ => OB.recv fun hm => by
  have h1 : n ∈ [st "codes", st "is_folded"] := hm
  rw [List.contains_iff_mem.mpr h1] at h
  cases h
theorem GAP.recv {g cl : Addr} {gs ge : Int} {n : Str} (h : ((gapF 0 0 0).map (·.1)).contains n = false := by decide +kernel) : Recv (OB g 304 (gapF cl gs ge)) g 304 n := OB.recv fun hm => by
  have h1 : n ∈ (gapF 0 0 0).map (·.1) := hm
  rw [List.contains_iff_mem.mpr h1] at h
  cases h
theorem BUF.zv : Has (BUF b text) b 515 (st "zv") (.int ((text.length : Int) + 1)) := Has.exa (fun _ => At.hd) fun z _ => Has.own (.tl (.tl (.tl (.tl (.tl (.tl .hd))))))
theorem BUF.begv : Has (BUF b text) b 515 (st "begv") (.int 1) := Has.exa (fun _ => At.hd) fun z _ => Has.own (.tl (.tl (.tl (.tl (.tl .hd)))))
end
theorem FlV.int {a b : Int} (h : a = b) : FlV (.ret (.int a)) = .int b := congrArg SV.int h
theorem FlV.bool {a b : Bool} (h : a = b) : FlV (.ret (.bool a)) = .bool b := congrArg SV.bool h
theorem all1 {s1 : SV} {P : List Value → Prop} (h : ∀ a, Is a s1 → P [a]) : ∀ vs, IsAll vs [s1] → P vs
  | [a], i => h a i.1
  | [], i => i.elim
  | _ :: _ :: _, i => i.2.elim
theorem allC {s : SV} {ss : List SV} {P : List Value → Prop} (h : ∀ a, Is a s → ∀ vs, IsAll vs ss → P (a :: vs)) : ∀ vs, IsAll vs (s :: ss) → P vs
  | a :: vs, i => h a i.1 vs i.2
  | [], i => i.elim
theorem all2 {s1 s2 : SV} {P : List Value → Prop} (h : ∀ a, Is a s1 → ∀ b, Is b s2 → P [a, b]) : ∀ vs, IsAll vs [s1, s2] → P vs := allC fun a i => all1 fun b j => h a i b j
theorem all3 {s1 s2 s3 : SV} {P : List Value → Prop} (h : ∀ a, Is a s1 → ∀ b, Is b s2 → ∀ c, Is c s3 → P [a, b, c]) : ∀ vs, IsAll vs [s1, s2, s3] → P vs := allC fun a i => all2 fun b j c k => h a i b j c k
theorem all4 {s1 s2 s3 s4 : SV} {P : List Value → Prop} (h : ∀ a, Is a s1 → ∀ b, Is b s2 → ∀ c, Is c s3 → ∀ d, Is d s4 → P [a, b, c, d]) : ∀ vs, IsAll vs [s1, s2, s3, s4] → P vs := allC fun a i => all3 fun b j c k d l => h a i b j c k d l
theorem all5 {s1 s2 s3 s4 s5 : SV} {P : List Value → Prop} (h : ∀ a, Is a s1 → ∀ b, Is b s2 → ∀ c, Is c s3 → ∀ d, Is d s4 → ∀ e, Is e s5 → P [a, b, c, d, e]) : ∀ vs, IsAll vs [s1, s2, s3, s4, s5] → P vs := allC fun a i => all4 fun b j c k d l e m => h a i b j c k d l e m
theorem LOB.recv {x lo : Addr} {f : Bool} {n : Str} (h : [st "codes", st "is_folded"].contains n = false := by decide +kernel) : Recv (OB x 178 [(st "codes", .ref lo), (st "is_folded", .bool f)]) x 178 n := OB.recv fun hm => by
  have h1 : n ∈ [st "codes", st "is_folded"] := hm
  rw [List.contains_iff_mem.mpr h1] at h
  cases h
theorem BOB.recv {b g mr ls : Addr} {pt zv ti ci : Int} {n : Str} (h : ((bufF 0 0 0 0 0 0 0).map (·.1)).contains n = false := by decide +kernel) : Recv (OB b 515 (bufF g mr ls pt zv ti ci)) b 515 n := OB.recv fun hm => by
  have h1 : n ∈ (bufF 0 0 0 0 0 0 0).map (·.1) := hm
  rw [List.contains_iff_mem.mpr h1] at h
  cases h
theorem MOB.recv {mr rw : Addr} {n : Str} (h : [st "rows"].contains n = false := by decide +kernel) : Recv (OB mr 374 [(st "rows", .ref rw)]) mr 374 n := OB.recv fun hm => by
  have h1 : n ∈ [st "rows"] := hm
  rw [List.contains_iff_mem.mpr h1] at h
  cases h
section
variable {k : Nat} {c : Cx} {S : Fn} {vals : Vals} {H H' : List Asn} {b g cl mr ls x lo rw : Addr} {pt zz ti ci gs ge i : Int} {f : Bool} {Q : QE} {Qs : Vals → List Asn → Prop}
theorem a515_text : AttrOk 515 (st "text") none := ⟨fun _ => by kernel_rfl, fun _ => by kernel_rfl, fun _ => by kernel_rfl, fun _ => by kernel_rfl⟩
theorem GB.text (h : At H (OB b 515 (bufF g mr ls pt zz ti ci))) (q : Q (.ref g) vals H) : GetV k c S vals H (.ref b) (st "text") Q := GetV.own h (.tl (.tl .hd)) a515_text q
theorem a515_markers : AttrOk 515 (st "markers") none := ⟨fun _ => by kernel_rfl, fun _ => by kernel_rfl, fun _ => by kernel_rfl, fun _ => by kernel_rfl⟩
theorem GB.markers (h : At H (OB b 515 (bufF g mr ls pt zz ti ci))) (q : Q (.ref mr) vals H) : GetV k c S vals H (.ref b) (st "markers") Q := GetV.own h (.tl (.tl (.tl .hd))) a515_markers q
theorem a515_point : AttrOk 515 (st "point") none := ⟨fun _ => by kernel_rfl, fun _ => by kernel_rfl, fun _ => by kernel_rfl, fun _ => by kernel_rfl⟩
theorem GB.point (h : At H (OB b 515 (bufF g mr ls pt zz ti ci))) (q : Q (.int pt) vals H) : GetV k c S vals H (.ref b) (st "point") Q := GetV.own h (.tl (.tl (.tl (.tl .hd)))) a515_point q
theorem a515_begv : AttrOk 515 (st "begv") none := ⟨fun _ => by kernel_rfl, fun _ => by kernel_rfl, fun _ => by kernel_rfl, fun _ => by kernel_rfl⟩
theorem GB.begv (h : At H (OB b 515 (bufF g mr ls pt zz ti ci))) (q : Q (.int 1) vals H) : GetV k c S vals H (.ref b) (st "begv") Q := GetV.own h (.tl (.tl (.tl (.tl (.tl .hd))))) a515_begv q
theorem a515_zv : AttrOk 515 (st "zv") none := ⟨fun _ => by kernel_rfl, fun _ => by kernel_rfl, fun _ => by kernel_rfl, fun _ => by kernel_rfl⟩
theorem GB.zv (h : At H (OB b 515 (bufF g mr ls pt zz ti ci))) (q : Q (.int zz) vals H) : GetV k c S vals H (.ref b) (st "zv") Q := GetV.own h (.tl (.tl (.tl (.tl (.tl (.tl .hd)))))) a515_zv q
theorem a515_is_read_only : AttrOk 515 (st "is_read_only") none := ⟨fun _ => by kernel_rfl, fun _ => by kernel_rfl, fun _ => by kernel_rfl, fun _ => by kernel_rfl⟩
theorem GB.is_read_only (h : At H (OB b 515 (bufF g mr ls pt zz ti ci))) (q : Q (.bool false) vals H) : GetV k c S vals H (.ref b) (st "is_read_only") Q := GetV.own h (.tl (.tl (.tl (.tl (.tl (.tl (.tl (.tl (.tl .hd))))))))) a515_is_read_only q
theorem a515_ticks : AttrOk 515 (st "ticks") none := ⟨fun _ => by kernel_rfl, fun _ => by kernel_rfl, fun _ => by kernel_rfl, fun _ => by kernel_rfl⟩
theorem GB.ticks (h : At H (OB b 515 (bufF g mr ls pt zz ti ci))) (q : Q (.int ti) vals H) : GetV k c S vals H (.ref b) (st "ticks") Q := GetV.own h (.tl (.tl (.tl (.tl (.tl (.tl (.tl (.tl (.tl (.tl .hd)))))))))) a515_ticks q
theorem a515_listeners : AttrOk 515 (st "listeners") none := ⟨fun _ => by kernel_rfl, fun _ => by kernel_rfl, fun _ => by kernel_rfl, fun _ => by kernel_rfl⟩
theorem GB.listeners (h : At H (OB b 515 (bufF g mr ls pt zz ti ci))) (q : Q (.ref ls) vals H) : GetV k c S vals H (.ref b) (st "listeners") Q := GetV.own h (.tl (.tl (.tl (.tl (.tl (.tl (.tl (.tl (.tl (.tl (.tl (.tl (.tl .hd))))))))))))) a515_listeners q
theorem a515_undo : AttrOk 515 (st "undo") none := ⟨fun _ => by kernel_rfl, fun _ => by kernel_rfl, fun _ => by kernel_rfl, fun _ => by kernel_rfl⟩
theorem GB.undo (h : At H (OB b 515 (bufF g mr ls pt zz ti ci))) (q : Q (.none) vals H) : GetV k c S vals H (.ref b) (st "undo") Q := GetV.own h (.tl (.tl (.tl (.tl (.tl (.tl (.tl (.tl (.tl (.tl (.tl (.tl (.tl (.tl .hd)))))))))))))) a515_undo q
theorem a515_props : AttrOk 515 (st "props") none := ⟨fun _ => by kernel_rfl, fun _ => by kernel_rfl, fun _ => by kernel_rfl, fun _ => by kernel_rfl⟩
theorem GB.props (h : At H (OB b 515 (bufF g mr ls pt zz ti ci))) (q : Q (.none) vals H) : GetV k c S vals H (.ref b) (st "props") Q := GetV.own h (.tl (.tl (.tl (.tl (.tl (.tl (.tl (.tl (.tl (.tl (.tl (.tl (.tl (.tl (.tl .hd))))))))))))))) a515_props q
theorem a515_overlays : AttrOk 515 (st "overlays") none := ⟨fun _ => by kernel_rfl, fun _ => by kernel_rfl, fun _ => by kernel_rfl, fun _ => by kernel_rfl⟩
theorem GB.overlays (h : At H (OB b 515 (bufF g mr ls pt zz ti ci))) (q : Q (.none) vals H) : GetV k c S vals H (.ref b) (st "overlays") Q := GetV.own h (.tl (.tl (.tl (.tl (.tl (.tl (.tl (.tl (.tl (.tl (.tl (.tl (.tl (.tl (.tl (.tl .hd)))))))))))))))) a515_overlays q
theorem a304_room : AttrOk 304 (st "room") none := ⟨fun _ => by kernel_rfl, fun _ => by kernel_rfl, fun _ => by kernel_rfl, fun _ => by kernel_rfl⟩
theorem GG.room (h : At H (OB g 304 (gapF cl gs ge))) (q : Q (.int 8) vals H) : GetV k c S vals H (.ref g) (st "room") Q := GetV.own h .hd a304_room q
theorem a304_cells : AttrOk 304 (st "cells") none := ⟨fun _ => by kernel_rfl, fun _ => by kernel_rfl, fun _ => by kernel_rfl, fun _ => by kernel_rfl⟩
theorem GG.cells (h : At H (OB g 304 (gapF cl gs ge))) (q : Q (.ref cl) vals H) : GetV k c S vals H (.ref g) (st "cells") Q := GetV.own h (.tl .hd) a304_cells q
theorem a304_gap_start : AttrOk 304 (st "gap_start") none := ⟨fun _ => by kernel_rfl, fun _ => by kernel_rfl, fun _ => by kernel_rfl, fun _ => by kernel_rfl⟩
theorem GG.gap_start (h : At H (OB g 304 (gapF cl gs ge))) (q : Q (.int gs) vals H) : GetV k c S vals H (.ref g) (st "gap_start") Q := GetV.own h (.tl (.tl .hd)) a304_gap_start q
theorem a304_gap_end : AttrOk 304 (st "gap_end") none := ⟨fun _ => by kernel_rfl, fun _ => by kernel_rfl, fun _ => by kernel_rfl, fun _ => by kernel_rfl⟩
theorem GG.gap_end (h : At H (OB g 304 (gapF cl gs ge))) (q : Q (.int ge) vals H) : GetV k c S vals H (.ref g) (st "gap_end") Q := GetV.own h (.tl (.tl (.tl .hd))) a304_gap_end q
theorem a178_codes : AttrOk 178 (st "codes") none := ⟨fun _ => by kernel_rfl, fun _ => by kernel_rfl, fun _ => by kernel_rfl, fun _ => by kernel_rfl⟩
theorem GL.codes (h : At H (OB x 178 [(st "codes", .ref lo), (st "is_folded", .bool f)])) (q : Q (.ref lo) vals H) : GetV k c S vals H (.ref x) (st "codes") Q := GetV.own h .hd a178_codes q
theorem a178_is_folded : AttrOk 178 (st "is_folded") none := ⟨fun _ => by kernel_rfl, fun _ => by kernel_rfl, fun _ => by kernel_rfl, fun _ => by kernel_rfl⟩
theorem GL.is_folded (h : At H (OB x 178 [(st "codes", .ref lo), (st "is_folded", .bool f)])) (q : Q (.bool f) vals H) : GetV k c S vals H (.ref x) (st "is_folded") Q := GetV.own h (.tl .hd) a178_is_folded q
theorem a374_rows : AttrOk 374 (st "rows") none := ⟨fun _ => by kernel_rfl, fun _ => by kernel_rfl, fun _ => by kernel_rfl, fun _ => by kernel_rfl⟩
theorem GM.rows (h : At H (OB mr 374 [(st "rows", .ref rw)])) (q : Q (.ref rw) vals H) : GetV k c S vals H (.ref mr) (st "rows") Q := GetV.own h .hd a374_rows q
theorem GC.zv {text : List Int} (h : At H (BUF b text)) (q : Q (.int ((text.length : Int) + 1)) vals H) : GetV k c S vals H (.ref b) (st "zv") Q := GetV.has h BUF.zv a515_zv q
theorem GC.begv {text : List Int} (h : At H (BUF b text)) (q : Q (.int 1) vals H) : GetV k c S vals H (.ref b) (st "begv") Q := GetV.has h BUF.begv a515_begv q
theorem s515_zv : SetOk 515 (st "zv") := ⟨fun _ => by kernel_rfl, fun _ => by kernel_rfl, fun _ => by kernel_rfl, fun _ => by kernel_rfl⟩
theorem s515_point : SetOk 515 (st "point") := ⟨fun _ => by kernel_rfl, fun _ => by kernel_rfl, fun _ => by kernel_rfl, fun _ => by kernel_rfl⟩
theorem s515_ticks : SetOk 515 (st "ticks") := ⟨fun _ => by kernel_rfl, fun _ => by kernel_rfl, fun _ => by kernel_rfl, fun _ => by kernel_rfl⟩
theorem s515_codes_ticks : SetOk 515 (st "codes_ticks") := ⟨fun _ => by kernel_rfl, fun _ => by kernel_rfl, fun _ => by kernel_rfl, fun _ => by kernel_rfl⟩
theorem s304_gap_start : SetOk 304 (st "gap_start") := ⟨fun _ => by kernel_rfl, fun _ => by kernel_rfl, fun _ => by kernel_rfl, fun _ => by kernel_rfl⟩
theorem s304_gap_end : SetOk 304 (st "gap_end") := ⟨fun _ => by kernel_rfl, fun _ => by kernel_rfl, fun _ => by kernel_rfl, fun _ => by kernel_rfl⟩
theorem SB.zv (h : Rp (OB b 515 (bufF g mr ls pt zz ti ci)) (OB b 515 (bufF g mr ls pt i ti ci)) H H') (q : Qs vals H') : SetV k c S vals H (.ref b) (st "zv") (.int i) Qs := SetV.put h (.tl (.tl (.tl (.tl (.tl (.tl .hd)))))) s515_zv q (Nat.le_of_ble_eq_true rfl)
theorem SB.point (h : Rp (OB b 515 (bufF g mr ls pt zz ti ci)) (OB b 515 (bufF g mr ls i zz ti ci)) H H') (q : Qs vals H') : SetV k c S vals H (.ref b) (st "point") (.int i) Qs := SetV.put h (.tl (.tl (.tl (.tl .hd)))) s515_point q (Nat.le_of_ble_eq_true rfl)
theorem SB.ticks (h : Rp (OB b 515 (bufF g mr ls pt zz ti ci)) (OB b 515 (bufF g mr ls pt zz i ci)) H H') (q : Qs vals H') : SetV k c S vals H (.ref b) (st "ticks") (.int i) Qs := SetV.put h (.tl (.tl (.tl (.tl (.tl (.tl (.tl (.tl (.tl (.tl .hd)))))))))) s515_ticks q (Nat.le_of_ble_eq_true rfl)
theorem SB.codes_ticks (h : Rp (OB b 515 (bufF g mr ls pt zz ti ci)) (OB b 515 (bufF g mr ls pt zz ti i)) H H') (q : Qs vals H') : SetV k c S vals H (.ref b) (st "codes_ticks") (.int i) Qs := SetV.put h (.tl (.tl (.tl (.tl (.tl (.tl (.tl (.tl (.tl (.tl (.tl .hd))))))))))) s515_codes_ticks q (Nat.le_of_ble_eq_true rfl)
theorem SG.gap_start (h : Rp (OB g 304 (gapF cl gs ge)) (OB g 304 (gapF cl i ge)) H H') (q : Qs vals H') : SetV k c S vals H (.ref g) (st "gap_start") (.int i) Qs := SetV.put h (.tl (.tl .hd)) s304_gap_start q (Nat.le_of_ble_eq_true rfl)
theorem SG.gap_end (h : Rp (OB g 304 (gapF cl gs ge)) (OB g 304 (gapF cl gs i)) H H') (q : Qs vals H') : SetV k c S vals H (.ref g) (st "gap_end") (.int i) Qs := SetV.put h (.tl (.tl (.tl .hd))) s304_gap_end q (Nat.le_of_ble_eq_true rfl)
theorem m304_size : MethOk 304 (st "size") 238 := ⟨fun _ => by kernel_rfl, fun _ => by kernel_rfl, fun _ => by kernel_rfl, fun _ => by kernel_rfl⟩
theorem m304_code : MethOk 304 (st "code") 245 := ⟨fun _ => by kernel_rfl, fun _ => by kernel_rfl, fun _ => by kernel_rfl, fun _ => by kernel_rfl⟩
theorem m304_codes : MethOk 304 (st "codes") 252 := ⟨fun _ => by kernel_rfl, fun _ => by kernel_rfl, fun _ => by kernel_rfl, fun _ => by kernel_rfl⟩
theorem m304_move_gap : MethOk 304 (st "move_gap") 259 := ⟨fun _ => by kernel_rfl, fun _ => by kernel_rfl, fun _ => by kernel_rfl, fun _ => by kernel_rfl⟩
theorem m304_widen_gap : MethOk 304 (st "widen_gap") 266 := ⟨fun _ => by kernel_rfl, fun _ => by kernel_rfl, fun _ => by kernel_rfl, fun _ => by kernel_rfl⟩
theorem m304_insert : MethOk 304 (st "insert") 273 := ⟨fun _ => by kernel_rfl, fun _ => by kernel_rfl, fun _ => by kernel_rfl, fun _ => by kernel_rfl⟩
theorem m304_delete : MethOk 304 (st "delete") 280 := ⟨fun _ => by kernel_rfl, fun _ => by kernel_rfl, fun _ => by kernel_rfl, fun _ => by kernel_rfl⟩
theorem m374_numbers : MethOk 374 (st "numbers") 329 := ⟨fun _ => by kernel_rfl, fun _ => by kernel_rfl, fun _ => by kernel_rfl, fun _ => by kernel_rfl⟩
theorem m374_inserted : MethOk 374 (st "inserted") 357 := ⟨fun _ => by kernel_rfl, fun _ => by kernel_rfl, fun _ => by kernel_rfl, fun _ => by kernel_rfl⟩
theorem m374_deleted : MethOk 374 (st "deleted") 364 := ⟨fun _ => by kernel_rfl, fun _ => by kernel_rfl, fun _ => by kernel_rfl, fun _ => by kernel_rfl⟩
theorem m515_begin : MethOk 515 (st "begin") 449 := ⟨fun _ => by kernel_rfl, fun _ => by kernel_rfl, fun _ => by kernel_rfl, fun _ => by kernel_rfl⟩
theorem m515_end : MethOk 515 (st "end") 456 := ⟨fun _ => by kernel_rfl, fun _ => by kernel_rfl, fun _ => by kernel_rfl, fun _ => by kernel_rfl⟩
theorem m515_size : MethOk 515 (st "size") 463 := ⟨fun _ => by kernel_rfl, fun _ => by kernel_rfl, fun _ => by kernel_rfl, fun _ => by kernel_rfl⟩
theorem m515_code_at : MethOk 515 (st "code_at") 470 := ⟨fun _ => by kernel_rfl, fun _ => by kernel_rfl, fun _ => by kernel_rfl, fun _ => by kernel_rfl⟩
theorem m515_codes : MethOk 515 (st "codes") 477 := ⟨fun _ => by kernel_rfl, fun _ => by kernel_rfl, fun _ => by kernel_rfl, fun _ => by kernel_rfl⟩
theorem m515_touch : MethOk 515 (st "touch") 512 := ⟨fun _ => by kernel_rfl, fun _ => by kernel_rfl, fun _ => by kernel_rfl, fun _ => by kernel_rfl⟩
theorem m178_fits : MethOk 178 (st "fits") 168 := ⟨fun _ => by kernel_rfl, fun _ => by kernel_rfl, fun _ => by kernel_rfl, fun _ => by kernel_rfl⟩
theorem m178_next : MethOk 178 (st "next") 175 := ⟨fun _ => by kernel_rfl, fun _ => by kernel_rfl, fun _ => by kernel_rfl, fun _ => by kernel_rfl⟩
theorem g_fold : GlobOk (st "fold") (.ref 35) := fun _ => by kernel_rfl
theorem kg_fold : KeepOk (.ref 35) := fun _ => by kernel_rfl
theorem g_downcase : GlobOk (st "downcase") (.ref 28) := fun _ => by kernel_rfl
theorem kg_downcase : KeepOk (.ref 28) := fun _ => by kernel_rfl
theorem g_need_writable : GlobOk (st "need_writable") (.ref 62) := fun _ => by kernel_rfl
theorem kg_need_writable : KeepOk (.ref 62) := fun _ => by kernel_rfl
theorem g_reached : GlobOk (st "reached") (.ref 69) := fun _ => by kernel_rfl
theorem kg_reached : KeepOk (.ref 69) := fun _ => by kernel_rfl
theorem g_tell_ahead : GlobOk (st "tell_ahead") (.ref 76) := fun _ => by kernel_rfl
theorem kg_tell_ahead : KeepOk (.ref 76) := fun _ => by kernel_rfl
theorem g_tell_behind : GlobOk (st "tell_behind") (.ref 83) := fun _ => by kernel_rfl
theorem kg_tell_behind : KeepOk (.ref 83) := fun _ => by kernel_rfl
theorem g_text_out : GlobOk (st "text_out") (.ref 90) := fun _ => by kernel_rfl
theorem kg_text_out : KeepOk (.ref 90) := fun _ => by kernel_rfl
theorem g_text_in : GlobOk (st "text_in") (.ref 97) := fun _ => by kernel_rfl
theorem kg_text_in : KeepOk (.ref 97) := fun _ => by kernel_rfl
theorem g_hung_out : GlobOk (st "hung_out") (.ref 104) := fun _ => by kernel_rfl
theorem kg_hung_out : KeepOk (.ref 104) := fun _ => by kernel_rfl
theorem g_hung_in : GlobOk (st "hung_in") (.ref 111) := fun _ => by kernel_rfl
theorem kg_hung_in : KeepOk (.ref 111) := fun _ => by kernel_rfl
theorem g_put_in : GlobOk (st "put_in") (.ref 118) := fun _ => by kernel_rfl
theorem kg_put_in : KeepOk (.ref 118) := fun _ => by kernel_rfl
theorem g_insert : GlobOk (st "insert") (.ref 126) := fun _ => by kernel_rfl
theorem kg_insert : KeepOk (.ref 126) := fun _ => by kernel_rfl
theorem g_delete : GlobOk (st "delete") (.ref 133) := fun _ => by kernel_rfl
theorem kg_delete : KeepOk (.ref 133) := fun _ => by kernel_rfl
theorem g_line_start : GlobOk (st "line_start") (.ref 140) := fun _ => by kernel_rfl
theorem kg_line_start : KeepOk (.ref 140) := fun _ => by kernel_rfl
theorem g_line_end : GlobOk (st "line_end") (.ref 147) := fun _ => by kernel_rfl
theorem kg_line_end : KeepOk (.ref 147) := fun _ => by kernel_rfl
theorem g_row_matches : GlobOk (st "row_matches") (.ref 196) := fun _ => by kernel_rfl
theorem kg_row_matches : KeepOk (.ref 196) := fun _ => by kernel_rfl
theorem g_rows_by : GlobOk (st "rows_by") (.ref 203) := fun _ => by kernel_rfl
theorem kg_rows_by : KeepOk (.ref 203) := fun _ => by kernel_rfl
theorem g_how_many : GlobOk (st "how_many") (.ref 189) := fun _ => by kernel_rfl
theorem kg_how_many : KeepOk (.ref 189) := fun _ => by kernel_rfl
theorem g_keep_lines : GlobOk (st "keep_lines") (.ref 210) := fun _ => by kernel_rfl
theorem kg_keep_lines : KeepOk (.ref 210) := fun _ => by kernel_rfl
theorem g_flush_lines : GlobOk (st "flush_lines") (.ref 217) := fun _ => by kernel_rfl
theorem kg_flush_lines : KeepOk (.ref 217) := fun _ => by kernel_rfl
theorem g_law_draw : GlobOk (st "_law_draw") (.ref 524) := fun _ => by kernel_rfl
theorem kg_law_draw : KeepOk (.ref 524) := fun _ => by kernel_rfl
theorem g_law_small : GlobOk (st "_law_small") (.ref 529) := fun _ => by kernel_rfl
theorem kg_law_small : KeepOk (.ref 529) := fun _ => by kernel_rfl
theorem g_law_count : GlobOk (st "_law_count") (.ref 536) := fun _ => by kernel_rfl
theorem kg_law_count : KeepOk (.ref 536) := fun _ => by kernel_rfl
theorem g_law_left : GlobOk (st "_law_left") (.ref 543) := fun _ => by kernel_rfl
theorem kg_law_left : KeepOk (.ref 543) := fun _ => by kernel_rfl
theorem g_law_buffer : GlobOk (st "_law_buffer") (.ref 550) := fun _ => by kernel_rfl
theorem kg_law_buffer : KeepOk (.ref 550) := fun _ => by kernel_rfl
theorem g_Literal : GlobOk (st "Literal") (.ref 178) := fun _ => by kernel_rfl
theorem kg_Literal : KeepOk (.ref 178) := fun _ => by kernel_rfl
theorem g_GapText : GlobOk (st "GapText") (.ref 304) := fun _ => by kernel_rfl
theorem kg_GapText : KeepOk (.ref 304) := fun _ => by kernel_rfl
theorem g_Markers : GlobOk (st "Markers") (.ref 374) := fun _ => by kernel_rfl
theorem kg_Markers : KeepOk (.ref 374) := fun _ => by kernel_rfl
theorem g_Buffer : GlobOk (st "Buffer") (.ref 515) := fun _ => by kernel_rfl
theorem kg_Buffer : KeepOk (.ref 515) := fun _ => by kernel_rfl
end
theorem blt_len : BltOk (Str.ofString "len") (.builtin "len") := ⟨fun w => by kernel_rfl, by kernel_rfl, by decide⟩
theorem blt_min : BltOk (Str.ofString "min") (.builtin "min") := ⟨fun w => by kernel_rfl, by kernel_rfl, by decide⟩
theorem blt_max : BltOk (Str.ofString "max") (.builtin "max") := ⟨fun w => by kernel_rfl, by kernel_rfl, by decide⟩
theorem blt_range : BltOk (Str.ofString "range") (.type "range") := ⟨fun w => by kernel_rfl, by kernel_rfl, by decide⟩
theorem blt_list : BltOk (Str.ofString "list") (.type "list") := ⟨fun w => by kernel_rfl, by kernel_rfl, by decide⟩
theorem blt_sorted : BltOk (Str.ofString "sorted") (.builtin "sorted") := ⟨fun w => by kernel_rfl, by kernel_rfl, by decide⟩
theorem glob_newline : GlobOk (Str.ofString "NEWLINE") (.int 10 356) := fun w => by kernel_rfl
section
variable {k : Nat} {c : Cx} {S : Fn} {vals : Vals} {H : List Asn} {env : Env} {rest : List Stmt} {Q : QF} {v : SV}
theorem Seq.nx (h : JF k c S vals H (execs rest env) Q) : Seq k c S env rest Q .next vals H := h
theorem Seq.rt (h : Q (.ret v) vals H) : Seq k c S env rest Q (.ret v) vals H := h
theorem Seq.ct (h : Q .cont vals H) : Seq k c S env rest Q .cont vals H := h
theorem WQ.rt {σ : Type} {vI : σ → Vals} {HI : σ → List Asn} {P : σ → Prop} {μ : σ → Nat} {z : σ} (h : Q (.ret v) vals H) : WQ vI HI P μ z Q (.ret v) vals H := h
theorem FQ.rt {σ : Type} {vI : σ → Vals} {HI : σ → List Asn} {P : Nat → σ → Prop} {i : Nat} (h : Q (.ret v) vals H) : FQ vI HI P i Q (.ret v) vals H := h
end
section
open PySem.Spec
theorem n_pick {a b : Nat} {vs : List Value} (hab : a ≤ b) (hb : b ≤ vs.length) : vs.toArray.extract 0 (a : Int).toNat = (vs.take a).toArray ∧ vs.toArray.extract (max (a : Int) (b : Int)).toNat vs.toArray.size = (vs.drop b).toArray := by
  constructor
  · apply Array.toList_inj.mp; simp
  · apply Array.toList_inj.mp
    have : (max (a : Int) (b : Int)).toNat = b := by omega
    rw [this]
    simp
    exact List.take_of_length_le (by rw [List.length_drop]; omega)
theorem n_setslice {prog : Program} {w : World} {A : Around} {E : Value → Shared → Prop} {s : Shared} {h₀ : Heap} {L D v : Addr} {m : Str → Option Value} {news : Led} {g : Obj → Led} {vs ws : List Value} {n k : Nat} {cs ms : List Int} {vl vu : Value} {x y : Int} {Q : Unit → Shared → Prop}
    (F : Fr h₀ L s.heap m) (N : News h₀ L s.heap news) (U : UpdF D (listOf vs.toArray n) news g) (hv : (v, listOf ws.toArray k) ∈ news) (hne : D ≠ v) (pl : IsPart vl (some x)) (pu : IsPart vu (some y)) (hi : IntsAre vs cs) (hw : IntsAre ws ms)
    (h0 : 0 ≤ x) (h1 : x ≤ y) (h2 : y ≤ (cs.length : Int)) (hsz : cs.length + ms.length ≤ 4000)
    (h : ∀ h' us nn, Fr h₀ L h' m → News h₀ L h' (g (listOf (List.toArray us) nn)) → IntsAre us (cs.take x.toNat ++ ms ++ cs.drop y.toNat) → Q () { s with heap := h' }) :
    wpAny (model prog w) A (setItem (.ref D) (.ref s.heap.objs.size) (.ref v)) Q E { s with heap := s.heap.push { cls := .type "slice", data := .fields #[vl, vu, .none] } } := by
  obtain ⟨pre, post, rfl, hg, pa, pb⟩ := U.split
  have N1 : News h₀ L (s.heap.push { cls := .type "slice", data := .fields #[vl, vu, .none] }) (pre ++ (D, listOf vs.toArray n) :: post) := N.grown fun _ _ e => Heap.get?_push_of_some _ e
  have F1 := F.push { cls := .type "slice", data := .fields #[vl, vu, .none] }
  have z := N1 (D, listOf vs.toArray n) (List.mem_append.mpr (.inr (.head _)))
  have zv := N1 _ hv
  have hs : (s.heap.push { cls := .type "slice", data := .fields #[vl, vu, .none] }).IsSliceOf s.heap.objs.size vl vu .none := Heap.IsSliceOf.new ..
  generalize s.heap.push { cls := .type "slice", data := .fields #[vl, vu, .none] } = H at *
  generalize s.heap.objs.size = sl at *
  have hl : H.IsList D vs.toArray := ⟨_, z.1, rfl, n, rfl⟩
  have hlv : H.IsList v ws.toArray := ⟨_, zv.1, rfl, k, rfl⟩
  obtain ⟨o, ho, hc, ne, hd⟩ := id hl
  obtain ⟨ov, hov, hcv, nev, hdv⟩ := id hlv
  obtain ⟨os, hos, hcs, hds⟩ := id hs
  have hlen := hi.length
  have hlenw := hw.length
  have hTs : ({ s with heap := H } : Shared).TypeIs (.ref sl) "slice" := ⟨os, hos, hcs⟩
  have hTl : ({ s with heap := H } : Shared).TypeIs (.ref D) "list" := ⟨o, ho, hc⟩
  have hTv : ({ s with heap := H } : Shared).TypeIs (.ref v) "list" := ⟨ov, hov, hcv⟩
  unfold setItem
  try with_reducible refine wpAny_holding ?_
  first | refine wpAny_bind (wpAny_pure ?_) | skip
  refine wpAny_bind (wpAny_sequenceKey hTl (by decide) ?_)
  refine wpAny_bind (wpAny_callSpecial?_slot (name := Str.ofString "__setitem__") hTl slot_list_setitem
    (wpAny_call_entry slot_list_setitem hTl entry_list_setitem ?_ (args_list_setitem _ _ _)))
  show wpAny _ _ (Builtin.List.listSubscript? (.ref sl) >>= _) _ _ _
  refine wpAny_bind ?_
  unfold Builtin.List.listSubscript?
  refine wpAny_bind (wpAny_specialOf hTs slice_no_index ?_)
  simp only [Option.isNone_none, if_true]
  refine wpAny_pure ?_
  show wpAny _ _ (typeOf (.ref sl) >>= _) _ _ _
  refine wpAny_bind (wpAny_typeOf hTs ?_)
  rw [if_neg (by decide)]
  rw [listSliceParts_eq]
  refine wpAny_bind (wpAny_bind (wpAny_field hos hds (x := .none) rfl (wpAny_bind (wpAny_listPart .none ?_))))
  rw [if_neg (by decide)]
  refine wpAny_bind (wpAny_field hos hds (x := vl) rfl (wpAny_bind (wpAny_listPart pl ?_)))
  refine wpAny_bind (wpAny_field hos hds (x := vu) rfl (wpAny_bind (wpAny_listPart pu (wpAny_pure ?_))))
  have hsr : ¬ (Builtin.List.listSameRef (.ref D) (.ref v) = true) := by simp [Builtin.List.listSameRef, hne]
  have eb : sliceBounds (some x) (some y) none vs.toArray.size = (x, y, 1) := by
    simp only [sliceBounds, Option.getD_none, show (1 : Int) > 0 by decide, if_true, if_neg (show ¬ (x < 0) by omega), if_neg (show ¬ (y < 0) by omega), List.size_toArray]
    congr 1
    · omega
    · congr 1
      omega
  have hI : IntsAre (vs.take x.toNat ++ ws ++ vs.drop y.toNat) (cs.take x.toNat ++ ms ++ cs.drop y.toNat) := (IntsAre.append (IntsAre.append (hi.take _) hw) (hi.drop _))
  have hU := n_pick (a := x.toNat) (b := y.toNat) (vs := vs) (by omega) (by omega)
  rw [show ((x.toNat : Nat) : Int) = x by omega, show ((y.toNat : Nat) : Int) = y by omega] at hU
  have hf : (fun xs : Array Value => xs.extract 0 x.toNat ++ ws.toArray ++ xs.extract (max x y).toNat xs.size) vs.toArray = (vs.take x.toNat ++ ws ++ vs.drop y.toNat).toArray := by
    show vs.toArray.extract 0 x.toNat ++ ws.toArray ++ vs.toArray.extract (max x y).toNat vs.toArray.size = _
    rw [hU.1, hU.2]
    simp
  have hN2 := ki_turn (fun xs : Array Value => xs.extract 0 x.toNat ++ ws.toArray ++ xs.extract (max x y).toNat xs.size) N1 pa pb hf rfl
  rw [← hg] at hN2
  have fin := h _ _ _ (F1.change (Heap.SameBut.update ..) z.2.1 z.2.2) hN2 hI
  rw [if_neg hsr]
  refine wpAny_bind ?_
  unfold Builtin.List.listAllItems
  refine wpAny_bind (wpAny_typeOf hTv ?_)
  rw [if_pos (by decide)]
  unfold Builtin.List.listItems
  refine wpAny_bind (wpAny_seqItems hov hdv (wpAny_pure ?_))
  refine wpAny_bind (wpAny_bind (wpAny_seqItems ho hd (wpAny_pure ?_)))
  refine wpAny_bind (wpAny_of_eq (sliceIndices_raw (some x) (some y) none vs.toArray.size (by simp)) ?_)
  rw [eb]
  rw [if_pos (by rfl)]
  refine wpAny_bind (wpAny_rule ?_)
  rw [if_neg (by simp only [Builtin.List.listTooLong, sizeLine_eq, List.size_toArray, decide_eq_true_eq]; omega)]
  refine wpAny_bind (wpAny_updateSeq z.1 rfl ?_ ?_ ?_)
  · refine wpAny_bind (wpAny_letGo ?_)
    exact wpAny_pure ⟨.none, rfl, wpAny_pure fin⟩
  · rw [List.size_toArray, sizeLine_eq]; omega
  · rw [show (vs.toArray.extract 0 x.toNat ++ ws.toArray ++ vs.toArray.extract (max x y).toNat vs.toArray.size) = _ from hf, List.size_toArray, sizeLine_eq]
    simp only [List.length_append, List.length_take, List.length_drop]
    omega
end
section
variable {k : Nat} {c : Cx} {S : Fn} {vals : Vals} {H H' R : List Asn} {Q : QF}
theorem J.neg {i : Int} {n : Nat} {pos pos' : Pos} {env : Env} {Q : QE} (q : Q (.int (-i)) vals H) : JE k c S vals H (eval (.UnaryOp .USub (.Constant (.int i) n pos) pos') env) Q := fun ok F s g => by
  refine UnaryOp_ (wpAny_Constant_int (neg_int ?_))
  exact ⟨.int (-i), vals, H, ⟨_, rfl⟩, q, g.tok⟩
/-- a list's run is put anew -/
def SetS (k : Nat) (c : Cx) (S : Fn) (vals : Vals) (H : List Asn) (x v : SV) (lo hi : Option Int) (Q : List Asn → Prop) : Prop :=
  ∃ (D l : Addr) (cs ms : List Int) (i j : Int) (R : List Asn), x = .ref D ∧ v = .ref l ∧ lo = some i ∧ hi = some j ∧ Take [LI D cs, LI l ms] H R ∧ (0 ≤ i ∧ i ≤ j ∧ j ≤ (cs.length : Int) ∧ cs.length + ms.length ≤ 4000) ∧ Q (LI D (cs.take i.toNat ++ ms ++ cs.drop j.toNat) :: LI l ms :: R)
theorem SetS.mk {D l : Addr} {cs ms : List Int} {i j : Int} {Q : List Asn → Prop} (t : Take [LI D cs, LI l ms] H R) (h : 0 ≤ i ∧ i ≤ j ∧ j ≤ (cs.length : Int) ∧ cs.length + ms.length ≤ 4000) (q : Q (LI D (cs.take i.toNat ++ ms ++ cs.drop j.toNat) :: LI l ms :: R)) : SetS k c S vals H (.ref D) (.ref l) (some i) (some j) Q := ⟨D, l, cs, ms, i, j, R, rfl, rfl, rfl, rfl, t, h, q⟩
theorem J.asgS {o e : Expr} {lower upper : Option Expr} {p p' pos : Pos} {rest : List Stmt} (h : JE k c S vals H (eval e (c.env S)) fun v v1 H1 => JE k c S v1 H1 (eval o (c.env S)) fun x v2 H2 => JP k c S v2 H2 lower (c.env S) fun lo v3 H3 => JP k c S v3 H3 upper (c.env S) fun hi v4 H4 => SetS k c S v4 H4 x v lo hi fun H5 => JF k c S v4 H5 (execs rest (c.env S)) Q)
    (hs : swapsWith e (some (.Subscript o (.Slice lower upper none p) p')) pos.line (c.env S) = pure false := by rfl) : JF k c S vals H (execs (.Assign [.Subscript o (.Slice lower upper none p) p'] e pos :: rest) (c.env S)) Q := J.cons fun ok F s g => by
  refine wpAny_Assign_Subscript (wpAny_mono (h ok F s g) (fun b s1 ⟨v, v1, H1, ib, q, g1⟩ => wpAny_mono (q ok F s1 g1) (fun a s2 ⟨x, v2, H2, ia, q2, g2⟩ => ?_) fun _ _ x => x) fun _ _ x => x) hs
  refine wpAny_Slice (wpAny_mono (q2 ok F s2 g2) (fun vl s3 ⟨lo, v3, H3, il, q3, g3⟩ => wpAny_mono (q3 ok F s3 g3) (fun vu s4 ⟨hi, v4, H4, iu, ⟨D, l, cs, ms, i, j, R, e1, e2, e3, e4, t, ⟨b0, b1, b2, b3⟩, q4⟩, g4⟩ => evalPart_none_step ?_) fun _ _ x => x) fun _ _ x => x)
  subst e1 e2 e3 e4
  have ia : a = .ref D := ia
  have ib : b = .ref l := ib
  subst ia ib
  obtain ⟨mv, N, e, Fm, NN, nd, ⟨N1, N2, rfl, ⟨vs, n, rfl, i1⟩, N3, N4, rfl, ⟨ws, n', rfl, i2⟩, st⟩, sl⟩ := (g4.perm (t.perm.append_right _)).open_
  have nd1 := List.nodup_cons.mp nd
  refine n_setslice (g := fun o => (D, o) :: ([(l, listOf (List.toArray ws) n')] ++ N4)) Fm NN (.head fun p hp e' => nd1.1 (List.mem_map.mpr ⟨p, hp, e'⟩)) (.tail _ (.head _)) (fun e' => nd1.1 (e' ▸ .head _)) il iu i1 i2 b0 b1 b2 b3 fun h' us nn F' N' i' => ⟨.next, v4, _, trivial, q4, good.mk e F' N' (show ((D :: ([(l, listOf (List.toArray ws) n')] ++ N4).map (·.1)) : List Addr).Nodup from nd) ⟨[(D, _)], _, rfl, ⟨us, nn, rfl, i'⟩, [(l, listOf (List.toArray ws) n')], N4, rfl, ⟨ws, n', rfl, i2⟩, st⟩ sl⟩
end
section
variable {k : Nat} {c : Cx} {S : Fn} {vals v1 v2 v3 v4 : Vals} {H H' R : List Asn} {Q : QF} {x1 x2 x3 x4 : Str} {q1 q2 q3 q4 tp pos : Pos} {n : Nat} {e : Expr} {es : List Expr} {rest : List Stmt} {u1 u2 u3 u4 : SV} {t : Addr} {Q' : Vals → List Asn → Prop}
theorem UnpT.mk2 (hs : Sel (TP t [u1, u2]) H H') (p1 : Put S.nm vals x1 u1 v1) (p2 : Put S.nm v1 x2 u2 v2) (q : Q' v2 H') : UnpT S vals H (.ref t) [x1, x2] Q' := .mk hs ⟨v1, p1, v2, p2, q⟩
theorem UnpT.mk4 (hs : Sel (TP t [u1, u2, u3, u4]) H H') (p1 : Put S.nm vals x1 u1 v1) (p2 : Put S.nm v1 x2 u2 v2) (p3 : Put S.nm v2 x3 u3 v3) (p4 : Put S.nm v3 x4 u4 v4) (q : Q' v4 H') : UnpT S vals H (.ref t) [x1, x2, x3, x4] Q' := .mk hs ⟨v1, p1, v2, p2, v3, p3, v4, p4, q⟩
theorem J.asgT2 (h : JE k c S vals H (eval e (c.env S)) fun x v1 H1 => UnpT S v1 H1 x [x1, x2] fun v2 H2 => JF k c S v2 H2 (execs rest (c.env S)) Q)
    (hs : swapsWithSole [.Tuple [.Name x1 q1, .Name x2 q2] n tp] e pos.line (c.env S) = pure false := by rfl) (hw : swappedStores [.Tuple [.Name x1 q1, .Name x2 q2] n tp] e (c.env S) = pure none := by rfl) (hz : S.frz = none := by rfl) : JF k c S vals H (execs (.Assign [.Tuple [.Name x1 q1, .Name x2 q2] n tp] e pos :: rest) (c.env S)) Q := J.asgT (names := [(x1, q1), (x2, q2)]) h hs hw rfl hz
theorem J.asgT4 (h : JE k c S vals H (eval e (c.env S)) fun x v1 H1 => UnpT S v1 H1 x [x1, x2, x3, x4] fun v2 H2 => JF k c S v2 H2 (execs rest (c.env S)) Q)
    (hs : swapsWithSole [.Tuple [.Name x1 q1, .Name x2 q2, .Name x3 q3, .Name x4 q4] n tp] e pos.line (c.env S) = pure false := by rfl) (hw : swappedStores [.Tuple [.Name x1 q1, .Name x2 q2, .Name x3 q3, .Name x4 q4] n tp] e (c.env S) = pure none := by rfl) (hz : S.frz = none := by rfl) : JF k c S vals H (execs (.Assign [.Tuple [.Name x1 q1, .Name x2 q2, .Name x3 q3, .Name x4 q4] n tp] e pos :: rest) (c.env S)) Q := J.asgT (names := [(x1, q1), (x2, q2), (x3, q3), (x4, q4)]) h hs hw rfl hz
def UnpW2 (S : Fn) (vals : Vals) (H : List Asn) (x : SV) (x1 x2 : Str) (Q : Vals → List Asn → Prop) : Prop := ∃ t u1 u2 H' v1 v2, x = .ref t ∧ Sel (TP t [u1, u2]) H H' ∧ Put S.nm vals x2 u2 v1 ∧ Put S.nm v1 x1 u1 v2 ∧ Q v2 H'
theorem UnpW2.mk (hs : Sel (TP t [u1, u2]) H H') (p2 : Put S.nm vals x2 u2 v1) (p1 : Put S.nm v1 x1 u1 v2) (q : Q' v2 H') : UnpW2 S vals H (.ref t) x1 x2 Q' := ⟨t, u1, u2, H', v1, v2, rfl, hs, p2, p1, q⟩
def UnpW3 (S : Fn) (vals : Vals) (H : List Asn) (x : SV) (x1 x2 x3 : Str) (Q : Vals → List Asn → Prop) : Prop := ∃ t u1 u2 u3 H' v1 v2 v3, x = .ref t ∧ Sel (TP t [u1, u2, u3]) H H' ∧ Put S.nm vals x3 u3 v1 ∧ Put S.nm v1 x2 u2 v2 ∧ Put S.nm v2 x1 u1 v3 ∧ Q v3 H'
theorem UnpW3.mk (hs : Sel (TP t [u1, u2, u3]) H H') (p3 : Put S.nm vals x3 u3 v1) (p2 : Put S.nm v1 x2 u2 v2) (p1 : Put S.nm v2 x1 u1 v3) (q : Q' v3 H') : UnpW3 S vals H (.ref t) x1 x2 x3 Q' := ⟨t, u1, u2, u3, H', v1, v2, v3, rfl, hs, p3, p2, p1, q⟩
theorem J.asgW2 (h : JE k c S vals H (eval e (c.env S)) fun x v1 H1 => UnpW2 S v1 H1 x x1 x2 fun v2 H2 => JF k c S v2 H2 (execs rest (c.env S)) Q)
    (hs : swapsWithSole [.Tuple es n tp] e pos.line (c.env S) = pure false := by rfl) (hw : swappedStores [.Tuple es n tp] e (c.env S) = pure (some [x1, x2]) := by rfl) (hz : S.frz = none := by rfl) : JF k c S vals H (execs (.Assign [.Tuple es n tp] e pos :: rest) (c.env S)) Q :=
  J.asgW (names := [x1, x2]) (J.mono h fun x w H1 ⟨t, u1, u2, H', v1, v2, e, hs, p2, p1, q⟩ => ⟨t, [u1, u2], H', e, hs, rfl, v1, p2, v2, p1, q⟩) hs hw hz
theorem J.asgW3 (h : JE k c S vals H (eval e (c.env S)) fun x v1 H1 => UnpW3 S v1 H1 x x1 x2 x3 fun v2 H2 => JF k c S v2 H2 (execs rest (c.env S)) Q)
    (hs : swapsWithSole [.Tuple es n tp] e pos.line (c.env S) = pure false := by rfl) (hw : swappedStores [.Tuple es n tp] e (c.env S) = pure (some [x1, x2, x3]) := by rfl) (hz : S.frz = none := by rfl) : JF k c S vals H (execs (.Assign [.Tuple es n tp] e pos :: rest) (c.env S)) Q :=
  J.asgW (names := [x1, x2, x3]) (J.mono h fun x w H1 ⟨t, u1, u2, u3, H', v1, v2, v3, e, hs, p3, p2, p1, q⟩ => ⟨t, [u1, u2, u3], H', e, hs, rfl, v1, p3, v2, p2, v3, p1, q⟩) hs hw hz
end
section
variable {k : Nat} {c : Cx} {S : Fn} {vals v : Vals} {H : List Asn} {Q : QF} {σ : Type} {vI : σ → Vals} {HI : σ → List Asn}
theorem WQ.nx {P : σ → Prop} {μ : σ → Nat} {z : σ} (z' : σ) (hp : P z') (hm : μ z' < μ z) (l : Le v (vI z')) (e : Ent H (HI z')) : WQ vI HI P μ z Q .next v H := ⟨z', hp, hm, l, e⟩
theorem FQ.nx {P : Nat → σ → Prop} {i : Nat} (z' : σ) (hp : P i z') (l : Le v (vI z')) (e : Ent H (HI z')) : FQ vI HI P i Q .next v H := ⟨z', hp, l, e⟩
theorem FQ.ct {P : Nat → σ → Prop} {i : Nat} (z' : σ) (hp : P i z') (l : Le v (vI z')) (e : Ent H (HI z')) : FQ vI HI P i Q .cont v H := ⟨z', hp, l, e⟩
end
section
variable {k : Nat} {c : Cx} {S : Fn} {vals : Vals} {H : List Asn} {i : Expr} {D : Addr} {xs : List SV} {u v : SV} {Q : QE}
theorem SubV.tp0 (h : At H (TP D (v :: xs))) (q : Q v vals H) (hs : ∀ (D : Addr) (j : Int) (u : Tok), subscripted i false (.ref D) (.int j u) = operate [.ref D, .int j u] (getItem (.ref D) (.int j u)) := by intros; rfl) : SubV k c S vals H i (.ref D) (.int 0) Q := SubV.tp (j := 0) h rfl (Nat.zero_le _) q hs
theorem SubV.tp1 (h : At H (TP D (u :: v :: xs))) (q : Q v vals H) (hs : ∀ (D : Addr) (j : Int) (u : Tok), subscripted i false (.ref D) (.int j u) = operate [.ref D, .int j u] (getItem (.ref D) (.int j u)) := by intros; rfl) : SubV k c S vals H i (.ref D) (.int 1) Q := SubV.tp (j := 1) h rfl (Nat.le_of_ble_eq_true rfl) q hs
end
theorem slen {cs : List Int} {x y : Nat} : ((cs.drop y).take x).length ≤ cs.length := by rw [List.length_take, List.length_drop]; exact Nat.le_trans (Nat.min_le_right _ _) (Nat.sub_le _ _)
section
variable {k : Nat} {c : Cx} {S : Fn} {vals : Vals} {H : List Asn}
theorem At.de {d : Addr} {N : Led} (h : At H (DE d)) {F : List Asn} (hs : Star (H ++ F) N) : ∃ o ep, (d, o) ∈ N ∧ (d == sysModules) = false ∧ o.ExactDict ∧ o.data = .dict #[] ep := by
  obtain ⟨N1, N2, rfl, h1, h2⟩ := Star.app.mp hs
  obtain ⟨X, Y, Z, rfl, o, ep, rfl, r⟩ := h.split h1
  exact ⟨o, ep, by simp, r⟩
theorem JC.sortedD {d : Addr} {Q : QE} (h : At H (DE d)) (q : ∀ D, Q (.ref D) vals (LI D [] :: H)) : JC k c S vals H (.builtin "sorted") [.ref d] Q := all1 fun a ia ok F s g => by
  have ia : a = .ref d := ia
  subst ia
  obtain ⟨mv, N, e, Fm, NN, nd, st, sl⟩ := g.open_
  obtain ⟨o, ep, m1, lo, ex, dat⟩ := h.de st
  have Ta : TabAt (intKind PR c.w) PyData.int s.heap d [] := TabAt.ofNews (kvs := []) NN m1 lo ⟨#[], ep, ex, dat, (fun e he => by simp at he), .nil, List.nodup_nil⟩ .nil
  refine kdu_sortedD (fun k v hk => ?_) ok.handled Fm NN Ta (Nat.zero_le _) fun B h' tk F' N' lt => ?_
  · cases v with
    | int i t =>
      have : i = k := by simpa [intKind, Value.isInt] using hk
      exact this ▸ .int _ _
    | _ => exact absurd hk Bool.false_ne_true
  · refine ksk_lsort (its := #[]) (vs := []) (ns := []) F' N' (fun o => .head fun p hp => Nat.ne_of_lt (lt p hp)) rfl .nil (Nat.zero_lt_succ _) fun vs' ns' n' h'' F'' N'' i el _ _ _ => ⟨.ref B, vals, _, rfl, q B, good.new (s := s) (tk := tk) e F'' N'' lt nd st sl ⟨vs', n', rfl, ?_⟩⟩
    cases i with
    | nil => exact .nil
    | cons _ _ => cases el
theorem loop_nil {prog : Program} {w : World} {A : Around} {E : Value → Shared → Prop} {s : Shared} {env : Env} {h₀ : Heap} {x : Str} {body : List Stmt} {Q : Flow → Shared → Prop} {l : Addr} {nn : Nat} {us : List Value} {m₀ : Map} {news : Led} (hh : A.handled = none) (hl : (l, W.listOf us.toArray nn) ∈ news) (hi : IntsAre us []) (F : Fr h₀ env.locals s.heap m₀) (N : News h₀ env.locals s.heap news)
    (done : ∀ h tk, Fr h₀ env.locals h m₀ → News h₀ env.locals h news → Q .next { s with heap := h, toks := tk }) :
    wpAny (model prog w) A (pyIter (.ref l)) (fun it s₂ => LoopAtV prog w A h₀ env x body Q E it s₂) E s := by
  refine iter_invNL (vs := us) (ns := []) (nn := nn) (fun _ m nx => m = m₀ ∧ nx = news) hh hl hi F N ⟨rfl, rfl⟩ ?_ ?_
  · intro i n t m₁ n₁ h tk own hn; simp at hn
  · rintro m₁ n₁ h tk _ ⟨rfl, rfl⟩ F' N'; exact done h tk F' N'
/-- a loop over an empty list -/
def EmpV (H : List Asn) (r : SV) (P : Prop) : Prop := ∃ l, r = .ref l ∧ At H (LI l []) ∧ P
theorem EmpV.mk {l : Addr} {P : Prop} (h : At H (LI l [])) (p : P) : EmpV H (.ref l) P := ⟨l, rfl, h, p⟩
theorem J.forE {x : Str} {px pos : Pos} {iter : Expr} {body : List Stmt} {rest : List Stmt} {Q : QF} (hx : x ∈ S.nm) (h : JE k c S vals H (eval iter (c.env S)) fun r v1 H1 => EmpV H1 r (JF k c S v1 H1 (execs rest (c.env S)) Q))
    (hs : ∀ x, foldedSetIterable iter (c.env S) x = pure x := by intro _; rfl) : JF k c S vals H (execs (.For (.Name x px) iter body [] pos :: rest) (c.env S)) Q := J.cons fun ok F s g => by
  obtain ⟨mv0, N0, e0', Fm0, _, _, _, _⟩ := g.open_
  refine For_invVF (h₀ := c.h₀) Fm0 (ok.fn.loc x hx).1 (by show (S.cs.kind == .class || (S.cs.kind == .module && _)) = false; rw [ok.fn.kind]; rfl) (wpAny_mono (h ok F s g) (fun a s1 ⟨r, v1, H1, ia, ⟨l, er, hl, q⟩, g1⟩ => ?_) fun _ _ x => x) hs .never
  subst er
  have ia : a = .ref l := ia
  subst ia
  obtain ⟨mv, N, e, Fm, NN, nd, st, sl⟩ := g1.open_
  obtain ⟨us, n, m1, i1⟩ := hl.li st
  exact loop_nil ok.handled m1 i1 Fm NN fun h' tk F' N' => ⟨.next, v1, H1, trivial, q, good.mk e F' N' nd st sl⟩
end
section
variable {k : Nat} {c : Cx} {S : Fn} {vals : Vals} {H R : List Asn} {b : Addr} {text : List Int} {Q : QE}
theorem Sp.useE {σ : Type} {f : Value} {svs : List SV} {Hf : List Asn} {kf : Nat} {P : σ → Prop} {r : σ → SV} {post : σ → List Asn → List Asn} (sp : Sp f svs Hf kf P r post) (t : Ent H (Hf ++ R)) (hk : kf ≤ k) (q : ∀ z, P z → Q (r z) vals (post z R)) : JC k c S vals H f svs Q := fun vs is =>
  J.ent t (J.frame ((sp.run k c S vals hk vs is).mono fun v v1 H1 ⟨e1, z, p, e2, e3⟩ => by
    subst e1 e2 e3
    rw [← sp.fr]
    exact q z p))
theorem BUF.unfG {x : SV} {n : Str} (s : Sel (BUF b text) H R) (h : ∀ (g cl mr rw ls : Addr) (cs : List Int) (gs ge pt ti ci : Int), GOf cs gs ge text → GetV k c S vals (OB b 515 (bufF g mr ls pt ((text.length : Int) + 1) ti ci) :: OB g 304 (gapF cl gs ge) :: LI cl cs :: OB mr 374 [(st "rows", .ref rw)] :: DE rw :: LI ls [] :: R) x n Q) : GetV k c S vals H x n Q := fun a ia => BUF.unf s fun _ _ _ _ _ _ _ _ _ _ _ hz => h _ _ _ _ _ _ _ _ _ _ _ hz a ia
theorem GC.is_read_only (h : At H (BUF b text)) (q : Q (.bool false) vals H) : GetV k c S vals H (.ref b) (st "is_read_only") Q := GetV.has h (Has.exa (fun _ => At.hd) fun z _ => Has.own (.tl (.tl (.tl (.tl (.tl (.tl (.tl (.tl (.tl .hd)))))))))) a515_is_read_only q
theorem GC.undo (h : At H (BUF b text)) (q : Q .none vals H) : GetV k c S vals H (.ref b) (st "undo") Q := GetV.has h (Has.exa (fun _ => At.hd) fun z _ => Has.own (.tl (.tl (.tl (.tl (.tl (.tl (.tl (.tl (.tl (.tl (.tl (.tl (.tl (.tl .hd))))))))))))))) a515_undo q
theorem GC.props (h : At H (BUF b text)) (q : Q .none vals H) : GetV k c S vals H (.ref b) (st "props") Q := GetV.has h (Has.exa (fun _ => At.hd) fun z _ => Has.own (.tl (.tl (.tl (.tl (.tl (.tl (.tl (.tl (.tl (.tl (.tl (.tl (.tl (.tl (.tl .hd)))))))))))))))) a515_props q
theorem GC.overlays (h : At H (BUF b text)) (q : Q .none vals H) : GetV k c S vals H (.ref b) (st "overlays") Q := GetV.has h (Has.exa (fun _ => At.hd) fun z _ => Has.own (.tl (.tl (.tl (.tl (.tl (.tl (.tl (.tl (.tl (.tl (.tl (.tl (.tl (.tl (.tl (.tl .hd))))))))))))))))) a515_overlays q
end
inductive Snoc {α : Type} : List α → α → List α → Prop
  | nil {p} : Snoc [] p [p]
  | cons {a l p l'} (h : Snoc l p l') : Snoc (a :: l) p (a :: l')
theorem Snoc.eq {α : Type} {l l' : List α} {p : α} (h : Snoc l p l') : l' = l ++ [p] := by
  induction h with
  | nil => rfl
  | cons h ih => rw [ih]; rfl
section
variable {k : Nat} {c : Cx} {S : Fn} {vals : Vals} {H H' R : List Asn} {b x C : Addr} {text : List Int} {n : Str} {v : SV}
theorem SetN {fs fs' : List (Str × SV)} {Q : Vals → List Asn → Prop} (hr : Rp (OB x C fs) (OB x C fs') H H') (hs : Snoc fs (n, v) fs') (hx : (fs.map (·.1)).contains n = false) (hc : SetOk C n) (q : Q vals H') (hz : fs.length ≤ 100 := by exact Nat.le_of_ble_eq_true rfl) : SetV k c S vals H (.ref x) n v Q := by
  have e := hs.eq
  subst e
  exact SetV.new hr (fun hm => by rw [List.contains_iff_mem.mpr hm] at hx; cases hx) hc q hz
theorem BUF.unfS {y : SV} {Q : Vals → List Asn → Prop} (s : Sel (BUF b text) H R) (h : ∀ (g cl mr rw ls : Addr) (cs : List Int) (gs ge pt ti ci : Int), GOf cs gs ge text → SetV k c S vals (OB b 515 (bufF g mr ls pt ((text.length : Int) + 1) ti ci) :: OB g 304 (gapF cl gs ge) :: LI cl cs :: OB mr 374 [(st "rows", .ref rw)] :: DE rw :: LI ls [] :: R) y n v Q) : SetV k c S vals H y n v Q := fun a d ia id => BUF.unf s fun _ _ _ _ _ _ _ _ _ _ _ hz => h _ _ _ _ _ _ _ _ _ _ _ hz a d ia id
end
section
variable {σ : Type} {C f : Addr} {svs : List SV} {Hf : List Asn} {kb : Nat} {P : Addr × σ → Prop} {post : Addr × σ → List Asn → List Asn}
  {name qual : Str} {params : Arguments} {body : List Stmt} {scope : Scope} {dV kV doc pm cdv ct oc : Value} {an od : Option Addr} {osl : Array (Option Value)} {nm : List Str} {vals0 : Addr → Vals} {bn : List Value → List (Str × Value)}
theorem Sp.introP (K : ClsAt C f) (X : FnAt f name qual params body scope dV kV doc pm cdv ct oc an od osl nm) (bn : List Value → List (Str × Value)) (vals0 : Addr → Vals)
    (fr : ∀ z R, post z R = post z [] ++ R)
    (hbind : ∀ x w (s : Shared), (KF w).In s.heap → ∀ vs, IsAll vs (.ref x :: svs) → BindsTo s (fnOf name qual params body scope dV kV doc pm an cdv ct) ⟨vs, []⟩ (bn vs))
    (hloc : ∀ x vs, IsAll vs (.ref x :: svs) → ((bn vs).all fun x => decide (scope.names.lookup x.1 = some .local)) = true)
    (hv : ∀ x vs, IsAll vs (.ref x :: svs) → Slots nm (vals0 x) (fun y => List.lookup y (bn vs).reverse))
    (jb : ∀ (x : Addr) (c' : Cx), JF kb c' ⟨qual, scope, nm, none⟩ (vals0 x) (OB x C [] :: Hf) (execs body (c'.env ⟨qual, scope, nm, none⟩)) fun fl _ H1 => fl = .next ∧ ∃ z, P (x, z) ∧ Ent H1 (post (x, z) [])) :
    Sp (.ref C) svs Hf (kb + 3) P (fun z => .ref z.1) post := Sp.introC (P := fun x u => P (x, u)) (post := fun x u => post (x, u)) K X bn vals0 (fun x z R => fr (x, z) R) hbind hloc hv jb
end
theorem all6 {s1 s2 s3 s4 s5 s6 : SV} {P : List Value → Prop} (h : ∀ a, Is a s1 → ∀ b, Is b s2 → ∀ c, Is c s3 → ∀ d, Is d s4 → ∀ e, Is e s5 → ∀ f, Is f s6 → P [a, b, c, d, e, f]) : ∀ vs, IsAll vs [s1, s2, s3, s4, s5, s6] → P vs := allC fun a i => all5 fun b j c k d l e m g n => h a i b j c k d l e m g n
theorem blt_abs : BltOk (Str.ofString "abs") (.builtin "abs") := ⟨fun w => by kernel_rfl, by kernel_rfl, by decide⟩
section
variable {k : Nat} {c : Cx} {S : Fn} {vals : Vals} {H H' R : List Asn}
theorem JC.absI {x : Int} {Q : QE} (q : ∀ y, Q (.int y) vals H) : JC k c S vals H (.builtin "abs") [.int x] Q := all1 fun a ia ok F s g => by
  obtain ⟨t, rfl⟩ := ia
  exact call_abs_int fun u tk => ⟨.int _, vals, H, ⟨_, rfl⟩, q _, g.tok⟩
-- list.pop(0)
def PopV (H : List Asn) (x i : SV) (Q : SV → List Asn → Prop) : Prop := ∃ D y ns H', x = .ref D ∧ i = .int 0 ∧ Rp (LI D (y :: ns)) (LI D ns) H H' ∧ ns.length ≤ 1000 ∧ Q (.int y) H'
theorem PopV.mk {D : Addr} {y : Int} {ns : List Int} {Q : SV → List Asn → Prop} (hr : Rp (LI D (y :: ns)) (LI D ns) H H') (hz : ns.length ≤ 1000) (q : Q (.int y) H') : PopV H (.ref D) (.int 0) Q := ⟨D, y, ns, H', rfl, rfl, hr, hz, q⟩
theorem popV_run {x i : SV} {Q : QE} {a b : Value} (ia : Is a x) (ib : Is b i) (h : PopV H x i fun v H1 => Q v vals H1) : JE k c S vals H (call (.builtin "list.pop") [a, b]) Q := fun ok F s g => by
  obtain ⟨D, y, ns, H', rfl, rfl, hr, hz, q⟩ := h
  have ia : a = .ref D := ia
  obtain ⟨t, rfl⟩ := ib
  subst ia
  obtain ⟨mv, N, e, Fm, NN, nd, st, sl⟩ := g.open_
  obtain ⟨N1, N2, rfl, st1, st2⟩ := Star.app.mp st
  obtain ⟨X, Y, Z, rfl, ⟨vs, n, rfl, i1⟩, back⟩ := hr.split st1
  cases i1 with
  | @cons y' t' ws _ i1 =>
    have hl := i1.length
    have eN : X ++ ([(D, listOf (List.toArray (Value.int y t' :: ws)) n)] ++ Z) ++ N2 = X ++ (D, listOf (List.toArray (Value.int y t' :: ws)) n) :: (Z ++ N2) := by simp
    rw [eN] at NN nd
    refine kl_popAt (p := []) (q := ws) (k := 0) Fm NN (by rfl) (by simp [seqIndex?]) (by simp [kl_cut]) (upd_mid nd) (by simp only [List.length_cons, sizeLine_eq]; omega) fun h' F' N' => ⟨.int y, vals, H', ⟨t', rfl⟩, q, good.mk e F' N' (nodup_mid nd) ?_ sl⟩
    refine Star.app.mpr ⟨_, N2, ?_, back [(D, listOf (List.toArray ([] ++ ws)) (n + 1))] ⟨ws, n + 1, rfl, i1⟩, st2⟩
    simp
theorem J.pop {o e : Expr} {p pos : Pos} {Q : QE} {pl : Sem Bool} (h : JE k c S vals H (eval o (c.env S)) fun x v1 H1 => (∃ D ns, x = .ref D ∧ At H1 (LI D ns)) ∧ JE k c S v1 H1 (eval e (c.env S)) fun i v2 H2 => PopV H2 x i fun v H3 => Q v v2 H3)
    (h1 : starEach [e] (c.env S) = (false, eval e (c.env S)) :: starEach [] (c.env S) := by rfl) (h2 : ((backTo pos (starEach [e] (c.env S))).any fun x => x.1) = false := by rfl)
    (h3 : eval ((o.Attribute (Str.ofString "pop") p).Call [e] [] pos) (c.env S) = (do let ov ← eval o (c.env S); standAt p.atName; let __x ← holding [ov] (getMethod ov (Str.ofString "pop") pl); match __x with | (f, first) => callWith pos f first (backTo pos (starEach [e] (c.env S))) []) := by rfl) : JE k c S vals H (eval (.Call (.Attribute o (Str.ofString "pop") p) [e] [] pos) (c.env S)) Q := fun ok F s g => by
  refine MethodCall_ (pl := pl) (wpAny_mono (h ok F s g) (fun ov s1 ⟨x, v1, H1, ia, ⟨⟨D, ns, ex, hl⟩, q⟩, g1⟩ => ?_) fun _ _ x => x) h3
  subst ex
  have ia : ov = .ref D := ia
  subst ia
  obtain ⟨mv, N, e', Fm, NN, nd, st, sl⟩ := g1.open_
  obtain ⟨us, n, m1, i1⟩ := hl.li st
  refine getMethod_pop_N NN m1 ?_
  have hj := wpAny_mono (Q' := fun as s2 => wpAny (model PR c.w) c.A (call (.builtin "list.pop") ([.ref D] ++ as)) (fun a s' => ∃ b vals' H', Is a b ∧ Q b vals' H' ∧ good c S s' vals' (H' ++ F)) (fun _ _ => False) s2) (J.args1 (Q := fun xs v2 H2 => ∃ i, xs = [i] ∧ PopV H2 (.ref D) i fun v H3 => Q v v2 H3) (pos := pos) (J.mono q fun i v2 H2 r => ⟨i, rfl, r⟩) h1 ok F s1 g1) (fun as s2 ⟨xs, v2, H2, is, ⟨i, ex, q2⟩, g2⟩ => by
    subst ex
    match as, is with
    | [b], ⟨ib, _⟩ => exact popV_run (x := .ref D) (a := .ref D) rfl ib q2 ok F s2 g2) fun _ _ x => x
  rw [h1] at hj h2 ⊢
  exact Calls.callWith_builtin h2 (Calls.evalArgs_plain hj)
end
-- cells
def CE (cc : Addr) (v : SV) : Asn := fun N => ∃ o w, N = [(cc, o)] ∧ o.data = .cell (some w) ∧ Is w v
def CE0 (cc : Addr) : Asn := fun N => ∃ o, N = [(cc, o)] ∧ o.data = .cell none
section
variable {k : Nat} {c : Cx} {S : Fn} {vals : Vals} {H H' R : List Asn}
theorem At.ce {cc : Addr} {v : SV} {N : Led} (h : At H (CE cc v)) {F : List Asn} (hs : Star (H ++ F) N) : ∃ o w, (cc, o) ∈ N ∧ o.data = .cell (some w) ∧ Is w v := by
  obtain ⟨N1, N2, rfl, h1, h2⟩ := Star.app.mp hs
  obtain ⟨X, Y, Z, rfl, o, w, rfl, r⟩ := h.split h1
  exact ⟨o, w, by simp, r⟩
theorem J.nameC {x : Str} {pos : Pos} {cc : Addr} {v : SV} {Q : QE} (ha : At H (CE cc v)) (hcl : c.cl.lookup x = some cc) (hx : S.cs.names.lookup x = some .cell) (q : Q v vals H) (hd : (x == Str.ofString "__debug__") = false := by rfl) : JE k c S vals H (eval (.Name x pos) (c.env S)) Q := fun ok F s g => by
  obtain ⟨mv, N, e, Fm, NN, nd, st, sl⟩ := g.open_
  obtain ⟨o, w, m, d, i⟩ := ha.ce st
  exact nameX_C NN hcl m d ⟨v, vals, H, i, q, g⟩ ok.fn.kind hx hd
theorem good.storeC {x : Str} {v : Value} {u : SV} {cc : Addr} (hr : Rp (CE0 cc) (CE cc u) H H') (hv : Is v u) (hcl : c.cl.lookup x = some cc) (hx : S.cs.names.lookup x = some .cell) {Q : Vals → List Asn → Prop} (q : Q vals H') : JU k c S vals H (storeName (c.env S) x v) fun _ v1 H1 => Q v1 H1 := fun ok F s g => by
  obtain ⟨mv, N, e, Fm, NN, nd, st, sl⟩ := g.open_
  obtain ⟨N1, N2, rfl, st1, st2⟩ := Star.app.mp st
  obtain ⟨X, Y, Z, rfl, ⟨o, rfl, hd⟩, back⟩ := hr.split st1
  have eN : X ++ ([(cc, o)] ++ Z) ++ N2 = X ++ (cc, o) :: (Z ++ N2) := by simp
  rw [eN] at NN nd
  have U : ∀ {A B : Led}, ((A ++ (cc, o) :: B).map (·.1)).Nodup → UpdF cc o (A ++ (cc, o) :: B) (fun o' => A ++ (cc, o') :: B) := by
    intro A
    induction A with
    | nil => exact fun h => .head fun p hp e => (List.nodup_cons.mp h).1 (List.mem_map.mpr ⟨p, hp, e⟩)
    | cons q A ih =>
      intro B h
      have h' := List.nodup_cons.mp h
      exact .tail (fun e => h'.1 (List.mem_map.mpr ⟨(cc, o), List.mem_append.mpr (.inr (.head _)), e.symm⟩)) (ih h'.2)
  refine storeX_C Fm NN hcl (U nd) hd (fun h' o' F' N' d' => ⟨(), vals, H', rfl, q, good.mk e F' N' (nodup_mid nd) ?_ sl⟩) ok.fn.kind hx
  refine Star.app.mpr ⟨_, N2, ?_, back [(cc, o')] ⟨o', v, rfl, d', hv⟩, st2⟩
  simp
/-- two names from a tuple, the first one a cell -/
theorem J.asgWc {x1 x2 : Str} {q1 q2 : Pos} {n : Nat} {e : Expr} {tp pos : Pos} {rest : List Stmt} {Q : QF} {cc : Addr} (hcl : c.cl.lookup x1 = some cc) (hx : S.cs.names.lookup x1 = some .cell)
    (h : JE k c S vals H (eval e (c.env S)) fun x v1 H1 => ∃ t u1 u2 H' v2 H'', x = .ref t ∧ Sel (TP t [u1, u2]) H1 H' ∧ Rp (CE0 cc) (CE cc u1) H' H'' ∧ Put S.nm v1 x2 u2 v2 ∧ JF k c S v2 H'' (execs rest (c.env S)) Q)
    (hs : swapsWithSole [.Tuple [.Name x1 q1, .Name x2 q2] n tp] e pos.line (c.env S) = pure false := by rfl) (hw : swappedStores [.Tuple [.Name x1 q1, .Name x2 q2] n tp] e (c.env S) = pure none := by rfl)
    (hE : assignEach [.Name x1 q1, .Name x2 q2] (c.env S) = [(false, assign (.Name x1 q1) (c.env S)), (false, assign (.Name x2 q2) (c.env S))] := by rfl) (hz : S.frz = none := by rfl) : JF k c S vals H (execs (.Assign [.Tuple [.Name x1 q1, .Name x2 q2] n tp] e pos :: rest) (c.env S)) Q := J.cons fun ok F s g => by
  refine Assign_Tuple (wpAny_mono (h ok F s g) (fun a s1 ⟨x, v1, H1, ia, ⟨t, u1, u2, H2, v2, H3, ex, hsel, hr, hp, q⟩, g1⟩ => ?_) fun _ _ x => x) hs hw
  subst ex
  have ia : a = .ref t := ia
  subst ia
  obtain ⟨mv, N, e1, Fm, NN, nd, st, sl⟩ := (hsel.tp g1).open_
  obtain ⟨vs, m1, i1⟩ := At.hd.tp st
  refine unpackN_ (items := vs.toArray) Fm NN ⟨_, (NN _ m1).1, rfl, 0, rfl⟩ ok.handled (by rw [hE, List.size_toArray, i1.len]; rfl) (by rw [hE]; rfl) fun h' F' N' => ?_
  obtain ⟨N1, N2, e3, ⟨vs', e4, _⟩, st2⟩ := st
  have g2 : good c S { s1 with heap := h' } v1 (H2 ++ F) := good.mk e1 F' (fun q hq => N' q (e3 ▸ List.mem_append.mpr (.inr hq))) (by
    rw [e3, List.map_append] at nd; exact (List.nodup_append.mp nd).2.1) st2 sl
  rw [hE]
  match vs, i1 with
  | [w1, w2], ⟨iw1, iw2, _⟩ =>
    show wpAny _ _ (assignInOrder [assign (.Name x1 q1) (c.env S), assign (.Name x2 q2) (c.env S)] [w1, w2]) _ _ _
    refine assignInOrder_cons (PyProof.Rows.assign_Name (wpAny_mono (good.storeC (Q := fun a b => a = v1 ∧ b = H3) hr iw1 hcl hx ⟨rfl, rfl⟩ ok F _ g2) (fun _ s2 ⟨_, v3, H4, _, ⟨e5, e6⟩, g3⟩ => ?_) fun _ _ x => x))
    subst e5 e6
    refine assignInOrder_cons (PyProof.Rows.assign_Name (wpAny_mono (good.store (Q := fun a b => a = v2 ∧ b = H4) hz hp iw2 ⟨rfl, rfl⟩ ok F s2 g3) (fun _ s3 ⟨_, v4, H5, _, ⟨e7, e8⟩, g4⟩ => assignInOrder_nil ?_) fun _ _ x => x))
    subst e7 e8
    exact ⟨.next, _, _, trivial, q, g4⟩
end
-- a function with a cell
structure FnAtC (f : Addr) (name qual : Str) (params : Arguments) (body : List Stmt) (scope : Scope) (dV kV doc pm cdv ct oc : Value) (an od : Option Addr) (osl : Array (Option Value)) (nm : List Str) (xc : Str) : Prop where
  ho : ∀ w, List.lookup f (KF w) = some ⟨oc, od, .func (fnOf name qual params body scope dV kV doc pm an cdv ct), osl⟩
  hcd : ∀ w, codeIn (KF w) cdv qual = true
  hS : Fn.Ok ⟨qual, scope, nm, none⟩
  hco : scope.isCoroutine = false
  hgen : scope.isGenerator = false
  hce : ∀ n, cellsFrom n scope.names [] = [(xc, n)]
section
variable {σ : Type} {f : Addr} {svs : List SV} {Hf : List Asn} {kb : Nat} {P : σ → Prop} {r : σ → SV} {post : σ → List Asn → List Asn}
  {name qual : Str} {params : Arguments} {body : List Stmt} {scope : Scope} {dV kV doc pm cdv ct oc : Value} {an od : Option Addr} {osl : Array (Option Value)} {nm : List Str} {xc : Str}
theorem Sp.introK (X : FnAtC f name qual params body scope dV kV doc pm cdv ct oc an od osl nm xc) (bn : List Value → List (Str × Value)) (vals0 : Vals) (vc : SV)
    (fr : ∀ z R, post z R = post z [] ++ R)
    (hbind : ∀ w (s : Shared), (KF w).In s.heap → ∀ vs, IsAll vs svs → BindsTo s (fnOf name qual params body scope dV kV doc pm an cdv ct) ⟨vs, []⟩ (bn vs))
    (hkind : ∀ vs, IsAll vs svs → ((bn vs).all fun y => scope.names.lookup y.1 == some .local || scope.names.lookup y.1 == some .cell) = true)
    (hv : ∀ vs, IsAll vs svs → Slots nm vals0 (bindL (fun x => scope.names.lookup x) (bn vs) fun _ => none) ∧ ∃ v, bindC (fun x => scope.names.lookup x) (bn vs) (fun _ => none) xc = some v ∧ Is v vc)
    (jb : ∀ (c' : Cx) (cc : Addr), c'.cl = [(xc, cc)] → JF kb c' ⟨qual, scope, nm, none⟩ vals0 (CE cc vc :: Hf) (execs body (c'.env ⟨qual, scope, nm, none⟩)) (EndQ P r post)) : Sp (.ref f) svs Hf (kb + 2) P r post where
  fr := fr
  run := fun k c S vals hk vs is ok F s g => by
    refine wpAny_call ?_
    obtain ⟨mv, N, e, Fm, NN, nd, st, sl⟩ := g.open_
    have r1 := ok.room
    have r2 := ok.units
    refine code_defC (env := c.env S) (outer := c.outer) ok.B Fm ok.X NN ok.T ok.frames rfl ok.fn.kind (X.ho _) (X.hcd _) (by omega) (hbind c.w s (good.inK ok g) vs is) (hkind vs is) (by rw [X.hce]; exact List.nodup_cons.mpr ⟨(fun h => nomatch h), List.nodup_nil⟩) ?_ X.hco X.hgen X.hS.kind
    intro g' L' h' tk' cells FG F' N' Y' B' X' T' l1
    rw [X.hce] at Y'
    obtain ⟨o, rfl, hd⟩ := CellsAre.one Y'
    obtain ⟨hsl, v, hvc, iv⟩ := hv vs is
    have okc : Ok kb ⟨c.w, c.A.deeper (envOfC qual scope L' f cdv), f, cdv, cellsFrom (L' + 1) scope.names [], c.env S :: c.outer, c.A, c.base, g', L', c.gens, c.drawn, c.os, c.mean, c.mg, c.mb⟩ ⟨qual, scope, nm, none⟩ := {
      handled := ok.handled
      frames := by show (c.A.frames.map _) = _; rw [ok.frames]; rfl
      B := ⟨ok.frames, B'.stays, B'.frames⟩
      X := X'
      T := T'
      room := by show c.A.depth + 1 + kb < _; omega
      units := by show c.A.units + 3 + 8 * kb < _; omega
      fn := X.hS }
    have gc : good ⟨c.w, c.A.deeper (envOfC qual scope L' f cdv), f, cdv, cellsFrom (L' + 1) scope.names [], c.env S :: c.outer, c.A, c.base, g', L', c.gens, c.drawn, c.os, c.mean, c.mg, c.mb⟩ ⟨qual, scope, nm, none⟩ { s with heap := h', toks := tk' } vals0 (CE (L' + 1) vc :: Hf ++ F) := by
      rw [e]
      refine ⟨h', _, _, _, rfl, F', N', List.nodup_cons.mpr ⟨fun q => ?_, nd⟩, ⟨[(L' + 1, o)], N, rfl, ⟨o, v, rfl, hd.trans (congrArg Data.cell hvc), iv⟩, st⟩, hsl, fun _ e => nomatch e⟩
      obtain ⟨p, hp, e1⟩ := List.mem_map.mp q
      have h1 : @LT.lt Nat _ p.1 L' := l1 p hp
      have h2 : @Eq Nat p.1 (L' + 1) := e1
      omega
    refine wpAny_mono (jb _ (L' + 1) (X.hce _) okc F _ gc) (fun fl s' ⟨b, v', H', hf, ⟨z, hp, ev, en⟩, g2⟩ => ?_) fun _ _ x => x.elim
    obtain ⟨h2, tk2, mv2, N2, e2, F2, NN2, nd2, st2, sl2⟩ := g2.ent (en.app F)
    subst e2
    refine ⟨L', mv2, N2, F2, NN2, fun Fa Na => ?_⟩
    refine ⟨r z, vals, post z [], ?_, ⟨rfl, z, hp, rfl, rfl⟩, ⟨h2, tk2, mv, N2, rfl, Fa, Na, nd2, st2, sl⟩⟩
    rw [← ev]
    cases fl <;> cases b <;> first | exact hf | exact hf.elim | rfl
end
def CV (C : Addr) (oC : Obj) (x : Str) (u : SV) : Asn := fun N => N = [(C, oC)] ∧ ∃ m w, LCg.NsObj oC m ∧ m x = some w ∧ Is w u
abbrev Fn.frozen (S : Fn) (m : Map) : Fn := ⟨S.cn, S.cs, S.nm, some m⟩
section
variable {k : Nat} {c : Cx} {S : Fn} {vals : Vals} {H H' R : List Asn}
theorem Ok.frozen (ok : Ok k c S) (m : Map) : Ok k c (S.frozen m) := ⟨ok.handled, ok.frames, ok.B, ok.X, ok.T, ok.room, ok.units, ⟨ok.fn.kind, ok.fn.nd, ok.fn.loc⟩⟩
theorem At.cv {C : Addr} {oC : Obj} {x : Str} {u : SV} {N : Led} (h : At H (CV C oC x u)) {F : List Asn} (hs : Star (H ++ F) N) : ∃ m w, (C, oC) ∈ N ∧ LCg.NsObj oC m ∧ m x = some w ∧ Is w u := by
  obtain ⟨N1, N2, rfl, h1, h2⟩ := Star.app.mp hs
  obtain ⟨X, Y, Z, rfl, rfl, m, w, r⟩ := h.split h1
  exact ⟨m, w, by simp, r⟩
section
variable {env : Env} {cs : Scope} {cl : List (Str × Addr)} {C : Addr} {oC : Obj} {x : Str} {u : SV} {pos : Pos} {Q : QE}
theorem J.nameV (ha : At H (CV C oC x u)) (hk : cs.kind = .function) (hx : (relabel cs env).names.lookup x = some .local) (q : Q u vals H) (hd : (x == Str.ofString "__debug__") = false := by rfl) : JE k c S vals H (eval (.Name x pos) (compEnvC cs cl C env)) Q := fun ok F s g => by
  obtain ⟨mv, N, e, Fm, NN, nd, st, sl⟩ := g.open_
  obtain ⟨m, w, mm, hn, hx', i⟩ := ha.cv st
  exact wpAny_Name (wpAny_loadName_local (env := compEnvC cs cl C env) hk hx (hn.ns (NN _ mm).1) hx' ⟨u, vals, H, i, q, g⟩) hd
theorem J.nameVC {cc : Addr} (ha : At H (CE cc u)) (hcl : cl.lookup x = some cc) (hk : cs.kind = .function) (hx : (relabel cs env).names.lookup x = some .cell) (q : Q u vals H) (hd : (x == Str.ofString "__debug__") = false := by rfl) : JE k c S vals H (eval (.Name x pos) (compEnvC cs cl C env)) Q := fun ok F s g => by
  obtain ⟨mv, N, e, Fm, NN, nd, st, sl⟩ := g.open_
  obtain ⟨o, w, m, d, i⟩ := ha.ce st
  exact wpAny_Name (wpAny_loadName_cell (env := compEnvC cs cl C env) hk hx hcl ⟨o, NN.get m, d⟩ ⟨u, vals, H, i, q, g⟩) hd
theorem J.globV {v : Value} {sv : SV} (hk : cs.kind = .function) (hx : (relabel cs (c.env S)).names.lookup x = some .globalImplicit) (hg : GlobOk x v) (hv : Is v sv) (q : Q sv vals H) (hd : (x == Str.ofString "__debug__") = false := by rfl) : JE k c S vals H (eval (.Name x pos) (compEnvC cs cl C (c.env S))) Q := fun ok F s g => by
  obtain ⟨mv, N, e, Fm, NN, nd, st, sl⟩ := g.open_
  have T := topRead_of ok.T
  exact Calls.Name_function_global (env := compEnvC cs cl C (c.env S)) hk hx (loadGlobal_global (env := compEnvC cs cl C (c.env S)) (T.g.keeps Fm.keep) (mg_of ok.X T.g (hg c.w)) ⟨sv, vals, H, hv, q, g⟩) hd
theorem J.bltV {v : Value} (hk : cs.kind = .function) (hx : (relabel cs (c.env S)).names.lookup x = some .globalImplicit) (hg : BltOk x v) (q : Q (.raw v) vals H) (hd : (x == Str.ofString "__debug__") = false := by rfl) : JE k c S vals H (eval (.Name x pos) (compEnvC cs cl C (c.env S))) Q := fun ok F s g => by
  obtain ⟨mv, N, e, Fm, NN, nd, st, sl⟩ := g.open_
  have T := topRead_of ok.T
  exact Calls.Name_function_global (env := compEnvC cs cl C (c.env S)) hk hx (loadGlobal_builtin (env := compEnvC cs cl C (c.env S)) (T.g.keeps Fm.keep) (mg_none_of ok.X T.g (hg.1 c.w)) (T.b.keeps Fm.keep) ((T.builtins x hg.2.2).trans hg.2.1) ⟨.raw v, vals, H, rfl, q, g⟩) hd
theorem J.callGV {f : Addr} {e : Expr} {rest : List Expr} {p pos : Pos} {Q : QE} (hk : cs.kind = .function) (hx : (relabel cs (c.env S)).names.lookup x = some .globalImplicit) (hg : GlobOk x (.ref f)) (hf : KeepOk (.ref f)) (h : JA k c S vals H pos (e :: rest) (compEnvC cs cl C (c.env S)) fun xs v1 H1 => JC k c S v1 H1 (.ref f) xs Q)
    (hd : (x == Str.ofString "__debug__") = false := by rfl)
    (h1 : starEach (e :: rest) (compEnvC cs cl C (c.env S)) = (false, eval e (compEnvC cs cl C (c.env S))) :: starEach rest (compEnvC cs cl C (c.env S)) := by rfl) (h2 : ((backTo pos (starEach rest (compEnvC cs cl C (c.env S)))).any fun x => x.1) = false := by rfl)
    (h3 : eval ((Expr.Name x p).Call (e :: rest) [] pos) (compEnvC cs cl C (c.env S)) = (do let f ← eval (.Name x p) (compEnvC cs cl C (c.env S)); callWith pos f [] (backTo pos (starEach (e :: rest) (compEnvC cs cl C (c.env S)))) (backToKw pos (keywordEach [] (compEnvC cs cl C (c.env S))))) := by rfl) : JE k c S vals H (eval (.Call (.Name x p) (e :: rest) [] pos) (compEnvC cs cl C (c.env S))) Q := fun ok F s g => by
  refine Call_ (wpAny_mono (J.globV (v := .ref f) (sv := .ref f) hk hx hg (Q := fun sv v1 H1 => sv = .ref f ∧ v1 = vals ∧ H1 = H) rfl ⟨rfl, rfl, rfl⟩ hd ok F s g) (fun a s1 ⟨sv, v1, H1, ia, ⟨e1, e2, e3⟩, g1⟩ => ?_) fun _ _ x => x) h3
  subst e1 e2 e3
  have ia : a = .ref f := ia
  subst ia
  refine callWith_K ok.X (hf _) (wpAny_mono (h ok F s1 g1) (fun as s2 ⟨xs, v2, H2, is, q2, g2⟩ => ⟨g2.inK ok, ?_⟩) fun _ _ x => x) h1 h2
  exact q2 _ is ok F s2 g2
theorem J.callBV {id : String} {e : Expr} {rest : List Expr} {p pos : Pos} {Q : QE} (hk : cs.kind = .function) (hx : (relabel cs (c.env S)).names.lookup x = some .globalImplicit) (hg : BltOk x (.builtin id)) (h : JA k c S vals H pos (e :: rest) (compEnvC cs cl C (c.env S)) fun xs v1 H1 => JC k c S v1 H1 (.builtin id) xs Q)
    (hd : (x == Str.ofString "__debug__") = false := by rfl)
    (h1 : starEach (e :: rest) (compEnvC cs cl C (c.env S)) = (false, eval e (compEnvC cs cl C (c.env S))) :: starEach rest (compEnvC cs cl C (c.env S)) := by rfl) (h2 : ((backTo pos (starEach rest (compEnvC cs cl C (c.env S)))).any fun x => x.1) = false := by rfl)
    (h3 : eval ((Expr.Name x p).Call (e :: rest) [] pos) (compEnvC cs cl C (c.env S)) = (do let f ← eval (.Name x p) (compEnvC cs cl C (c.env S)); callWith pos f [] (backTo pos (starEach (e :: rest) (compEnvC cs cl C (c.env S)))) (backToKw pos (keywordEach [] (compEnvC cs cl C (c.env S))))) := by rfl) : JE k c S vals H (eval (.Call (.Name x p) (e :: rest) [] pos) (compEnvC cs cl C (c.env S))) Q := fun ok F s g => by
  refine Call_ (wpAny_mono (J.bltV hk hx hg (Q := fun sv v1 H1 => sv = .raw (.builtin id) ∧ v1 = vals ∧ H1 = H) ⟨rfl, rfl, rfl⟩ hd ok F s g) (fun a s1 ⟨sv, v1, H1, ia, ⟨e1, e2, e3⟩, g1⟩ => ?_) fun _ _ x => x) h3
  subst e1 e2 e3
  have ia : a = .builtin id := ia
  subst ia
  exact callWith_builtin1 (wpAny_mono (h ok F s1 g1) (fun as s2 ⟨xs, v2, H2, is, q2, g2⟩ => q2 _ is ok F s2 g2) fun _ _ x => x) h1 h2
end
section
variable {σ : Type} {elt iter : Expr} {x : Str} {px pos : Pos} {cs : Scope} {cl : List (Str × Addr)} {Q : QE}
/-- what a turn of a comprehension does -/
abbrev CTurn (k : Nat) (c : Cx) (S : Fn) (vals : Vals) (elt : Expr) (x : Str) (cs : Scope) (cl : List (Str × Addr)) (n : Nat) (HI : σ → List Asn) (PI : Nat → List Int → σ → Prop) (u : Nat → Int) : Prop :=
  ∀ (m : Map) (i : Nat) ms z C oC, i < n → PI i ms z → JE k c (S.frozen m) vals (CV C oC x (.int (u i)) :: HI z) (eval elt (compEnvC cs cl C (c.env (S.frozen m)))) fun v _ H2 => ∃ b z', v = .int b ∧ PI (i + 1) (ms ++ [b]) z' ∧ Ent H2 (CV C oC x (.int (u i)) :: HI z')
theorem comp_rest {mv : Map} {F : List Asn} {Sx : Led → Prop} {n : Nat} {s : Shared} {Fin : List Value → Led → Prop} {P : Nat → Value → Prop} (HI : σ → List Asn) (PI : Nat → List Int → σ → Prop) (u : Nat → Int)
    (ok : Ok k c S) (hsl : SL S vals mv) (es : s = ⟨s.heap, c.gens, c.drawn, s.toks, c.os⟩) (hP : ∀ i v, P i v → ∃ t, v = .int (u i) t)
    (hS : ∀ z N, Star (HI z ++ F) N → Sx N) (turn : CTurn k c S vals elt x cs cl n HI PI u) (fin : ∀ ms z ys N, PI n ms z → IntsAre ys ms → (N.map (·.1)).Nodup → Star (HI z ++ F) N → Fin ys N) :
    ∀ j i ms z ys N, i + j = n → PI i ms z → IntsAre ys ms → (N.map (·.1)).Nodup → Star (HI z ++ F) N → LCg.CompRest PR c.w c.A c.h₀ c.L mv (c.env S) elt x cs cl s Sx P Fin j i ys N
  | 0, i, ms, z, ys, N, hij, hz, hi, nd, st => LCg.CompRest.zero (fin ms z ys N (by rw [← hij]; exact hz) hi nd st)
  | j + 1, i, ms, z, ys, N, hij, hz, hi, nd, st => LCg.CompRest.succ fun v I oI C oC D m₂ h tk E' hPv hoC hx2 Fh Nh off hne => by
    obtain ⟨t, rfl⟩ := hP _ _ hPv
    have off3 := off.mem
    obtain ⟨n1, n2, n3⟩ := hne
    have g : good c (S.frozen mv) { s with heap := h, toks := tk } vals ((CV C oC x (.int (u i)) :: HI z) ++ (F ++ [EX [(I, oI)], EX [(D, LCg.lst ys)]])) := by
      refine good.mk (N := (C, oC) :: (N ++ ([(I, oI)] ++ ([(D, LCg.lst ys)] ++ [])))) es Fh (fun p hp => Nh p ?_) ?_ ⟨[(C, oC)], _, rfl, ⟨rfl, m₂, _, hoC, hx2, t, rfl⟩, ?_⟩ ⟨hsl.1, fun m e => Option.some.inj e⟩
      · rcases List.mem_cons.mp hp with rfl | hp
        · exact .tail _ (.head _)
        · rcases List.mem_append.mp hp with hp | hp
          · exact .tail _ (.tail _ (.tail _ hp))
          · rcases List.mem_cons.mp hp with rfl | hp
            · exact .head _
            · rw [List.mem_singleton.mp hp]; exact .tail _ (.tail _ (.head _))
      · show List.Nodup (C :: List.map Prod.fst (N ++ ([(I, oI)] ++ ([(D, LCg.lst ys)] ++ []))))
        rw [List.map_append]
        refine List.nodup_cons.mpr ⟨fun q => ?_, List.nodup_append.mpr ⟨nd, List.nodup_cons.mpr ⟨fun q => n2 (List.mem_singleton.mp q), List.nodup_cons.mpr ⟨(fun q => nomatch q), List.nodup_nil⟩⟩, fun a ha b hb e => ?_⟩⟩
        · rcases List.mem_append.mp q with q | q
          · obtain ⟨p, hp, e⟩ := List.mem_map.mp q
            exact (off3 p hp).2.1 e
          · rcases List.mem_cons.mp q with q | q
            · exact n1 q.symm
            · exact n3 (List.mem_singleton.mp q)
        · obtain ⟨p, hp, rfl⟩ := List.mem_map.mp ha
          rcases List.mem_cons.mp hb with q | q
          · exact (off3 p hp).1 (e.trans q)
          · exact (off3 p hp).2.2 (e.trans (List.mem_singleton.mp q))
      · show Star (HI z ++ (F ++ _)) _
        rw [← List.append_assoc (HI z)]
        exact Star.app.mpr ⟨N, _, rfl, st, [(I, oI)], _, rfl, rfl, [(D, LCg.lst ys)], [], rfl, rfl, rfl⟩
    refine wpAny_mono (turn mv i ms z C oC (by omega) hz (ok.frozen mv) _ _ g) (fun a s4 ⟨v, v2, H2, ia, ⟨b, z', ev, hz', en⟩, g2⟩ => ?_) fun _ _ x => x.elim
    subst ev
    obtain ⟨t2, rfl⟩ := ia
    obtain ⟨h4, tk4, mv4, N4, e4, F4, NN4, nd4, st4, sl4⟩ := g2.ent (en.app _)
    have em : mv4 = mv := sl4.2 mv rfl
    subst em
    obtain ⟨N5, N6, rfl, ⟨rfl, _⟩, st5⟩ := st4
    have st5 : Star (HI z' ++ (F ++ [EX [(I, oI)], EX [(D, LCg.lst ys)]])) N6 := st5
    rw [← List.append_assoc (HI z')] at st5
    obtain ⟨Na, N7, rfl, sa, N8, N9, rfl, e8, N10, N11, rfl, e10, e11⟩ := Star.app.mp st5
    have e8 : N8 = [(I, oI)] := e8
    have e10 : N10 = [(D, LCg.lst ys)] := e10
    have e11 : N11 = [] := e11
    subst e8 e10 e11
    have nd5 : List.Nodup (C :: List.map Prod.fst (Na ++ ([(I, oI)] ++ ([(D, LCg.lst ys)] ++ [])))) := nd4
    rw [List.map_append] at nd5
    obtain ⟨d1, d2⟩ := List.nodup_cons.mp nd5
    obtain ⟨d3, d4, d5⟩ := List.nodup_append.mp d2
    rw [e4, show (⟨h4, c.gens, c.drawn, tk4, c.os⟩ : Shared) = { ({ s with heap := h, toks := tk } : Shared) with heap := h4, toks := tk4 } by rw [es]]
    refine LCg.CompEnd.intro F4 NN4 Na (fun p hp => ?_) (LCg.Off3.of fun p hp => ⟨fun e => ?_, fun e => ?_, fun e => ?_⟩) (hS z' Na sa) (comp_rest HI PI u ok hsl es hP hS turn fin j (i + 1) (ms ++ [b]) z' (ys ++ [.int b t2]) Na (by omega) hz' (hi.append (.cons _ _ .nil)) d3 sa)
    · rcases List.mem_cons.mp hp with rfl | hp
      · simp
      · rcases List.mem_cons.mp hp with rfl | hp
        · simp
        · rcases List.mem_cons.mp hp with rfl | hp
          · simp
          · simp [hp]
    · exact d5 p.1 (List.mem_map.mpr ⟨p, hp, rfl⟩) I (.head _) e
    · exact d1 (List.mem_append.mpr (.inl (List.mem_map.mpr ⟨p, hp, e⟩)))
    · exact d5 p.1 (List.mem_map.mpr ⟨p, hp, rfl⟩) D (.tail _ (.head _)) e
end
end
section
variable {k : Nat} {c : Cx} {S : Fn} {vals : Vals} {H H' R : List Asn} {elt iter : Expr} {x : Str} {px pos : Pos} {cs : Scope} {cl : List (Str × Addr)} {Q : QE}
/-- over a range -/
theorem J.compR (hclos : closureFor cs (c.env S) = pure cl) (hcell : ∀ y ∈ cs.names, y.2 ≠ .cell) (hkind : cs.kind = .function) (hnames : ∀ y ∈ cs.names, y.2 = .local → cs.names.lookup y.1 = some .local) (hx : cs.names.lookup x = some .local)
    (h : ∀ m : Map, JE k c (S.frozen m) vals H (eval iter (c.env (S.frozen m))) fun r _ H1 => ∃ (I : Addr) (a b : Int) (H' : List Asn) (σ : Type) (HI : σ → List Asn) (PI : Nat → List Int → σ → Prop) (z₀ : σ), r = .ref I ∧ Sel (RG I a b) H1 H' ∧ (-1000 ≤ a ∧ a ≤ 1000 ∧ -1000 ≤ b ∧ b ≤ 1000) ∧ PI 0 [] z₀ ∧ Ent H' (HI z₀) ∧
      CTurn k c S vals elt x cs cl (b - a).toNat HI PI (fun i => a + (i : Int)) ∧ ∀ ms z, PI (b - a).toNat ms z → ∀ D, Q (.ref D) vals (LI D ms :: HI z))
    (hs : ∀ x, foldedSetIterable iter (c.env S) x = pure x := by intro _; rfl) : JE k c S vals H (eval (.ListComp elt [⟨.Name x px, iter, [], 0⟩] cs pos) (c.env S)) Q := fun ok F s g => by
  obtain ⟨mv0, N0, e0, Fm0, NN0, nd0, st0, sl0⟩ := g.open_
  have gf : good c (S.frozen mv0) s vals (H ++ F) := by
    rw [e0]; exact ⟨_, _, mv0, N0, rfl, Fm0, NN0, nd0, st0, sl0.1, fun m e => Option.some.inj e⟩
  refine LCg.ListComp_U Fm0 hclos hcell hkind hnames hx (wpAny_mono (h mv0 (ok.frozen mv0) F s gf) (fun a s1 ⟨r, v1, H1, ia, ⟨I, a0, b0, H', σ, HI, PI, z₀, er, hsel, ⟨b1, b2, b3, b4⟩, hz, en, turn, fin⟩, g1⟩ => ?_) fun _ _ x => x.elim) hs
  subst er
  have ia : a = .ref I := ia
  subst ia
  have g2 : good c (S.frozen mv0) s1 v1 (RG I a0 b0 :: (HI z₀ ++ F)) := by
    have g3 : good c (S.frozen mv0) s1 v1 (RG I a0 b0 :: H' ++ F) := g1.perm (hsel.perm.append_right _)
    have g4 : good c (S.frozen mv0) s1 v1 ((H' ++ F) ++ [RG I a0 b0]) := g3.perm (by
      rw [List.cons_append]; exact (List.perm_append_comm (l₁ := [RG I a0 b0]) (l₂ := H' ++ F)))
    have g5 := g4.ent ((en.app F).app [RG I a0 b0])
    exact g5.perm (List.perm_append_comm (l₁ := HI z₀ ++ F) (l₂ := [RG I a0 b0]))
  obtain ⟨mv, N, o, e, Fm, NN, nd, st, sl, ⟨t, u, v, eo⟩, ho, hI, hdis⟩ := g2.off (fun N ⟨t, u, v, e⟩ => ⟨_, e⟩) (o := default)
  have eo : o = rangeO a0 b0 t u v := by simpa using eo
  subst eo
  have em : mv = mv0 := sl.2 mv0 rfl
  subst em
  refine LCg.CompSrc.range ok.handled Fm NN ho (small_one (by omega) (by omega) (by omega) (by omega)) (rangeSize_nat _ _) (by rw [sizeLine_eq]; omega) fun g => ?_
  refine comp_rest (n := (b0 - a0).toNat) (F := F) HI PI (fun i => a0 + (i : Int)) ok sl0 (by rw [e]) (fun i v h => h) (fun _ _ _ => trivial) turn (fun ms z ys N' hz' hi' nd' st' => ?_) (b0 - a0).toNat 0 [] z₀ [] N (Nat.zero_add _) hz .nil nd st
  intro D h' tk' F' N'' off
  exact ⟨.ref D, vals, _, rfl, fin ms z hz' D, good.mk (N := (D, LCg.lst ys) :: N') (s := { s1 with heap := g }) (by rw [e]) F' N'' (List.nodup_cons.mpr ⟨fun q => by
    obtain ⟨p, hp, e'⟩ := List.mem_map.mp q
    have off1 : ∀ {l : Led}, LCg.Off1 D l → ∀ p ∈ l, p.1 ≠ D := by
      intro l
      induction l with
      | nil => exact fun _ p h => nomatch h
      | cons q l ih => intro x p h; rcases List.mem_cons.mp h with rfl | h
                       · exact x.1
                       · exact ih x.2 p h
    exact off1 off p hp e', nd'⟩) ⟨[(D, LCg.lst ys)], N', rfl, ⟨ys, ys.length, rfl, hi'⟩, st'⟩ sl0⟩
end
theorem off1_mem {D : Addr} : ∀ {l : Led}, LCg.Off1 D l → ∀ p ∈ l, p.1 ≠ D
  | [], _, _, h => nomatch h
  | _ :: _, x, p, h => by
    rcases List.mem_cons.mp h with rfl | h
    · exact x.1
    · exact off1_mem x.2 p h
section
variable {k : Nat} {c : Cx} {S : Fn} {vals : Vals} {H H' R : List Asn} {elt iter : Expr} {x : Str} {px pos : Pos} {cs : Scope} {cl : List (Str × Addr)} {Q : QE}
theorem good.li_ex {s : Shared} {l : Addr} {ns : List Int} (g : good c S s vals (LI l ns :: H)) : ∃ vs n, IntsAre vs ns ∧ good c S s vals (EX [(l, W.listOf (List.toArray vs) n)] :: H) := by
  obtain ⟨h, tk, mv, N, rfl, F, NN, nd, ⟨N1, N2, rfl, ⟨vs, n, rfl, i⟩, st⟩, sl⟩ := g
  exact ⟨vs, n, i, h, tk, mv, _, rfl, F, NN, nd, ⟨_, N2, rfl, rfl, st⟩, sl⟩
theorem Ent.ex_li {l : Addr} {vs : List Value} {n : Nat} {ns : List Int} (i : IntsAre vs ns) : Ent [EX [(l, W.listOf (List.toArray vs) n)]] [LI l ns] := fun N nd st => by
  obtain ⟨N1, N2, rfl, h1, h2⟩ := st
  have h1 : N1 = [(l, W.listOf (List.toArray vs) n)] := h1
  have h2 : N2 = [] := h2
  subst h1 h2
  exact ⟨_, fun _ h => h, nd, ⟨_, [], rfl, ⟨vs, n, rfl, i⟩, rfl⟩⟩
/-- over a list -/
theorem J.compL (hclos : closureFor cs (c.env S) = pure cl) (hcell : ∀ y ∈ cs.names, y.2 ≠ .cell) (hkind : cs.kind = .function) (hnames : ∀ y ∈ cs.names, y.2 = .local → cs.names.lookup y.1 = some .local) (hx : cs.names.lookup x = some .local)
    (h : ∀ m : Map, JE k c (S.frozen m) vals H (eval iter (c.env (S.frozen m))) fun r _ H1 => ∃ (l : Addr) (ns : List Int) (H' : List Asn) (σ : Type) (HI : σ → List Asn) (PI : Nat → List Int → σ → Prop) (z₀ : σ), r = .ref l ∧ Sel (LI l ns) H1 H' ∧ ns.length ≤ 1000 ∧ PI 0 [] z₀ ∧ Ent H' (HI z₀) ∧
      CTurn k c S vals elt x cs cl ns.length HI PI (fun i => ns.getD i 0) ∧ ∀ ms z, PI ns.length ms z → ∀ D, Q (.ref D) vals (LI D ms :: LI l ns :: HI z))
    (hs : ∀ x, foldedSetIterable iter (c.env S) x = pure x := by intro _; rfl) : JE k c S vals H (eval (.ListComp elt [⟨.Name x px, iter, [], 0⟩] cs pos) (c.env S)) Q := fun ok F s g => by
  obtain ⟨mv0, N0, e0, Fm0, NN0, nd0, st0, sl0⟩ := g.open_
  have gf : good c (S.frozen mv0) s vals (H ++ F) := by
    rw [e0]; exact ⟨_, _, mv0, N0, rfl, Fm0, NN0, nd0, st0, sl0.1, fun m e => Option.some.inj e⟩
  refine LCg.ListComp_U Fm0 hclos hcell hkind hnames hx (wpAny_mono (h mv0 (ok.frozen mv0) F s gf) (fun a s1 ⟨r, v1, H1, ia, ⟨l, ns, H', σ, HI, PI, z₀, er, hsel, hlen, hz, en, turn, fin⟩, g1⟩ => ?_) fun _ _ x => x.elim) hs
  subst er
  have ia : a = .ref l := ia
  subst ia
  obtain ⟨vs, n, i1, g2⟩ : ∃ vs n, IntsAre vs ns ∧ good c (S.frozen mv0) s1 v1 (EX [(l, W.listOf (List.toArray vs) n)] :: (HI z₀ ++ F)) := by
    have g3 : good c (S.frozen mv0) s1 v1 (LI l ns :: H' ++ F) := g1.perm (hsel.perm.append_right _)
    have g4 : good c (S.frozen mv0) s1 v1 ((H' ++ F) ++ [LI l ns]) := g3.perm (by
      rw [List.cons_append]; exact (List.perm_append_comm (l₁ := [LI l ns]) (l₂ := H' ++ F)))
    have g5 := g4.ent ((en.app F).app [LI l ns])
    exact (g5.perm (List.perm_append_comm (l₁ := HI z₀ ++ F) (l₂ := [LI l ns]))).li_ex
  have g3 : good c (S.frozen mv0) s1 v1 (HI z₀ ++ (F ++ [EX [(l, W.listOf (List.toArray vs) n)]])) := by
    rw [← List.append_assoc]
    exact g2.perm (List.perm_append_comm (l₁ := [EX [(l, W.listOf (List.toArray vs) n)]]) (l₂ := HI z₀ ++ F))
  obtain ⟨mv, N, e, Fm, NN, nd, st, sl⟩ := g3.open_
  have em : mv = mv0 := sl.2 mv0 rfl
  subst em
  have hS : ∀ z N, Star (HI z ++ (F ++ [EX [(l, W.listOf (List.toArray vs) n)]])) N → (l, W.listOf (List.toArray vs) n) ∈ N := fun z N st => by
    rw [← List.append_assoc (HI z)] at st
    obtain ⟨Na, Nb, rfl, sa, Nc, Nd, rfl, hc, hd⟩ := Star.app.mp st
    have hc : Nc = [(l, W.listOf (List.toArray vs) n)] := hc
    subst hc
    simp
  have hl := i1.length
  refine LCg.CompSrc.ledger ok.handled Fm NN (hS _ _ st) (by rw [List.size_toArray, hl, sizeLine_eq]; omega) fun g => ?_
  have hP : ∀ (i : Nat) (v : Value), (List.toArray vs)[i]? = some v → ∃ t, v = .int (ns.getD i 0) t := fun i v hv => by
    have key : ∀ {vs : List Value} {ns : List Int} {i : Nat}, IntsAre vs ns → vs[i]? = some v → ∃ t, v = .int (ns.getD i 0) t := by
      intro vs ns i h
      induction h generalizing i with
      | nil => intro e; cases e
      | cons a t _ ih =>
        cases i with
        | zero => intro e; exact ⟨t, (Option.some.inj e).symm⟩
        | succ i => intro e; exact ih e
    exact key i1 (by simpa using hv)
  refine comp_rest (n := ns.length) (F := F ++ [EX [(l, W.listOf (List.toArray vs) n)]]) HI PI (fun i => ns.getD i 0) ok sl0 (by rw [e]) hP (fun z N hN => .inr ⟨_, hS z N hN, rfl, n, rfl⟩) turn (fun ms z ys N' hz' hi' nd' st' => ?_) _ 0 [] z₀ [] N (by rw [Nat.zero_add, List.size_toArray, hl]) hz .nil nd st
  intro D h' tk' F' N'' off
  have g6 : good c S { s1 with heap := h', toks := tk' } vals (LI D ms :: (HI z ++ (F ++ [EX [(l, W.listOf (List.toArray vs) n)]]))) := good.mk (N := (D, LCg.lst ys) :: N') (s := { s1 with heap := g }) (by rw [e]) F' N'' (List.nodup_cons.mpr ⟨fun q => by
    obtain ⟨p, hp, e'⟩ := List.mem_map.mp q
    exact off1_mem off p hp e', nd'⟩) ⟨[(D, LCg.lst ys)], N', rfl, ⟨ys, ys.length, rfl, hi'⟩, st'⟩ sl0
  have g7 : good c S { s1 with heap := h', toks := tk' } vals ([EX [(l, W.listOf (List.toArray vs) n)]] ++ (LI D ms :: (HI z ++ F))) := g6.perm (by
    rw [← List.append_assoc]
    exact List.perm_append_comm (l₁ := LI D ms :: (HI z ++ F)) (l₂ := [EX [(l, W.listOf (List.toArray vs) n)]]))
  have g8 := g7.ent ((Ent.ex_li i1).app _)
  exact ⟨.ref D, vals, _, rfl, fin ms z hz' D, g8.perm (.swap ..)⟩
end
theorem IsAll.get2 : ∀ {as : List Value} {xs : List SV} {j : Nat} {a : Value}, IsAll as xs → as[j]? = some a → ∃ x, xs[j]? = some x ∧ Is a x
  | a :: as, x :: xs, 0, v, ⟨h, _⟩, e => ⟨x, rfl, by
      have e : a = v := Option.some.inj e
      exact e ▸ h⟩
  | a :: as, x :: xs, j + 1, v, ⟨_, r⟩, e => by
      obtain ⟨u, h1, h2⟩ := IsAll.get2 (j := j) r e
      exact ⟨u, h1, h2⟩
  | [], [], _, _, _, e => nomatch e
  | [], _ :: _, _, _, h, _ => h.elim
  | _ :: _, [], _, _, h, _ => h.elim
section
variable {k : Nat} {c : Cx} {S : Fn} {vals : Vals} {H H' R : List Asn}
/-- a loop over a tuple -/
theorem J.forT {x : Str} {px pos : Pos} {iter : Expr} {body : List Stmt} {rest : List Stmt} {Q : QF} (hx : x ∈ S.nm) (h : JE k c S vals H (eval iter (c.env S)) fun r v1 H1 => ∃ (t : Addr) (us : List SV) (H' : List Asn) (σ : Type) (vI : σ → Vals) (HI : σ → List Asn) (PI : Nat → σ → Prop) (z₀ : σ), r = .ref t ∧ Sel (TP t us) H1 H' ∧ PI 0 z₀ ∧ Le v1 (vI z₀) ∧ Ent H' (HI z₀) ∧
      (∀ i z u, us[i]? = some u → PI i z → ∃ v1, Put S.nm (vI z) x u v1 ∧ JF k c S v1 (HI z) (execs body (c.env S)) (FQ vI HI PI (i + 1) (Seq k c S (c.env S) rest Q))) ∧ ∀ z, PI us.length z → JF k c S (vI z) (HI z) (execs rest (c.env S)) Q)
    (hs : ∀ x, foldedSetIterable iter (c.env S) x = pure x := by intro _; rfl) (hz : S.frz = none := by rfl) : JF k c S vals H (execs (.For (.Name x px) iter body [] pos :: rest) (c.env S)) Q := J.cons fun ok F s g => by
  obtain ⟨mv0, N0, e0', Fm0, _, _, _, _⟩ := g.open_
  refine For_invVF (h₀ := c.h₀) Fm0 (ok.fn.loc x hx).1 (by show (S.cs.kind == .class || (S.cs.kind == .module && _)) = false; rw [ok.fn.kind]; rfl) (wpAny_mono (h ok F s g) (fun a s1 ⟨r, v1, H1, ia, ⟨t, us, H2, σ, vI, HI, PI, z₀, er, hsel, h0, l0, en, turn, done⟩, g1⟩ => ?_) fun _ _ x => x) hs .never
  subst er
  have ia : a = .ref t := ia
  subst ia
  have g2 : good c S s1 (vI z₀) (TP t us :: (HI z₀ ++ F)) := by
    have g3 : good c S s1 v1 (TP t us :: H2 ++ F) := g1.perm (hsel.perm.append_right _)
    have g4 : good c S s1 v1 ((H2 ++ F) ++ [TP t us]) := g3.perm (by
      rw [List.cons_append]; exact (List.perm_append_comm (l₁ := [TP t us]) (l₂ := H2 ++ F)))
    have g5 := (g4.le l0).ent ((en.app F).app [TP t us])
    exact g5.perm (List.perm_append_comm (l₁ := HI z₀ ++ F) (l₂ := [TP t us]))
  obtain ⟨mv, N, o, e, Fm, NN, nd, st, sl, ⟨vs, eo, is⟩, ho, hI, hdis⟩ := g2.off (fun N ⟨vs, e, _⟩ => ⟨_, e⟩) (o := default)
  have eo : o = tupO vs := by simpa using eo
  subst eo
  have ht : s1.heap.IsTuple t vs.toArray := ⟨_, ho, rfl, 0, rfl⟩
  have hlt : t < s1.heap.objs.size := Heap.lt_size ho
  refine wpAny_pyIter_tuple ht ?_
  have W := Walks.tuple (prog := PR) (w := c.w) (A := c.A) ok.handled s1.heap.objs.size t (Nat.ne_of_lt hlt) vs.toArray
  have hn : vs.toArray.size = us.length := by rw [List.size_toArray, is.len]
  refine loopJ (Q := Seq k c S (c.env S) rest Q) (s₂ := { s1 with heap := s1.heap.push _ }) ok hz vI HI PI z₀ h0 W (fun hm => ?_) (fun b hb => ?_) (fun i h hi b hb => ?_) ⟨⟨_, Heap.get?_push_size _ rfl, rfl, rfl⟩, ht.push _⟩ (by rw [e]) (Fm.push _) (fun p hp => ⟨Heap.get?_push_of_some _ (NN p hp).1, (NN p hp).2⟩) nd st sl (fun p hp hm => ?_) (fun i z v hi hz hP => ?_) (fun z hz => done z (hn ▸ hz))
  · rcases List.mem_cons.mp hm with q | q
    · exact absurd Fm.ns.lt (q ▸ Nat.lt_irrefl _)
    · exact hI.1 (List.mem_singleton.mp q).symm
  · rcases List.mem_cons.mp hb with rfl | q
    · exact next_is_new Fm
    · rw [List.mem_singleton.mp q]; exact hI.2
  · rcases List.mem_cons.mp hb with rfl | q
    · obtain ⟨o, h1, _⟩ := hi.1; exact ⟨o, h1⟩
    · rw [List.mem_singleton.mp q]; obtain ⟨o, h1, _⟩ := hi.2; exact ⟨o, h1⟩
  · rcases List.mem_cons.mp hm with q | q
    · exact absurd (Heap.lt_size (NN p hp).1) (q ▸ Nat.lt_irrefl _)
    · exact hdis p hp (List.mem_singleton.mp q)
  · obtain ⟨u, hu, iu⟩ := is.get2 (j := i) (a := v) (by simpa using hP)
    obtain ⟨v1, hp, hj⟩ := turn i z u hu hz
    exact ⟨u, v1, iu, hp, hj⟩
-- lists of anything
def LS (l : Addr) (xs : List SV) : Asn := fun N => ∃ vs k, N = [(l, W.listOf (List.toArray vs) k)] ∧ IsAll vs xs
theorem At.ls {l : Addr} {xs : List SV} {N : Led} (h : At H (LS l xs)) {F : List Asn} (hs : Star (H ++ F) N) : ∃ vs n, (l, W.listOf (List.toArray vs) n) ∈ N ∧ IsAll vs xs := by
  obtain ⟨N1, N2, rfl, h1, h2⟩ := Star.app.mp hs
  obtain ⟨X, Y, Z, rfl, vs, n, rfl, hi⟩ := h.split h1
  exact ⟨vs, n, by simp, hi⟩
theorem J.listS {es : List Expr} {pos : Pos} {env : Env} {Q : QE} (h : JA k c S vals H pos es env fun xs v1 H1 => xs.length ≤ 100 ∧ ∀ D, Q (.ref D) v1 (LS D xs :: H1)) : JE k c S vals H (eval (.List es pos) env) Q := fun ok F s g =>
  List_ (wpAny_mono (h ok F s g) (fun as s1 ⟨xs, v1, H1, is, ⟨hz, q⟩, g1⟩ => by
    obtain ⟨mv, N, e, Fm, NN, nd, st, sl⟩ := g1.open_
    have hl := is.len
    exact newList_K Fm NN (fun D h' F' N' lt => ⟨.ref D, v1, _, rfl, q D, good.new e F' N' lt nd st sl ⟨as, 0, rfl, is⟩⟩) (by rw [hl, sizeLine_eq]; omega)) fun _ _ x => x)
theorem SubV.ls {i : Expr} {D : Addr} {xs : List SV} {j : Int} {v : SV} {Q : QE} (h : At H (LS D xs)) (h0 : 0 ≤ j) (hj : xs[j.toNat]? = some v) (q : Q v vals H) (hz : xs.length ≤ 1000) (hs : ∀ (D : Addr) (j : Int) (u : Tok), subscripted i false (.ref D) (.int j u) = operate [.ref D, .int j u] (getItem (.ref D) (.int j u)) := by intros; rfl) : SubV k c S vals H i (.ref D) (.int j) Q := by
  rintro value a b rfl ⟨t, rfl⟩ ok F s g
  obtain ⟨mv, N, e, Fm, NN, nd, st, sl⟩ := g.open_
  obtain ⟨us, n, m1, i1⟩ := h.ls st
  obtain ⟨u, hu, iu⟩ := i1.get hj
  have hl : j.toNat < us.length := (List.getElem?_eq_some_iff.mp hu).1
  have hl2 := i1.len
  exact kba_turn (value' := .Name (Str.ofString "x") default) (fun r => rfl) (item_listL (l := us) (News.isList NN m1) h0 (by omega) hu ⟨v, vals, H, iu, q, g⟩ (hs _ _ _) (fun r => rfl))
/-- a way's end said anew -/
theorem J.cut {σ : Type} {t : Sem Value} {Q : QE} (P : σ → Prop) (r : σ → SV) (Hz : σ → List Asn) (h : JE k c S vals H t fun u v1 H1 => ∃ z, P z ∧ u = r z ∧ v1 = vals ∧ Ent H1 (Hz z)) (hQ : ∀ u v H1 H2, Ent H1 H2 → Q u v H2 → Q u v H1) (q : ∀ z, P z → Q (r z) vals (Hz z)) : JE k c S vals H t Q := J.mono h fun u v1 H1 ⟨z, p, e1, e2, en⟩ => by
  subst e1 e2
  exact hQ _ _ _ _ en (q z p)
theorem StoN.ent {x : Str} {u : SV} {v : Vals} {H1 H2 : List Asn} {rest : List Stmt} {Q : QF} (en : Ent H1 H2) (h : StoN S v x u fun v2 => JF k c S v2 H2 (execs rest (c.env S)) Q) : StoN S v x u fun v2 => JF k c S v2 H1 (execs rest (c.env S)) Q := by
  obtain ⟨v2, hp, q⟩ := h
  exact ⟨v2, hp, J.ent en q⟩
/-- a run of a list that lies in the base -/
theorem J.sliceB {e : Expr} {lower upper : Option Expr} {p pos : Pos} {env : Env} {Q : QE} (h : JE k c S vals H (eval e env) fun x v1 H1 => JP k c S v1 H1 lower env fun lo v2 H2 => JP k c S v2 H2 upper env fun hi v3 H3 => ∃ l vs ns ms, x = .ref l ∧ c.h₀.IsList l (List.toArray vs) ∧ IntsAre vs ns ∧ ns.length ≤ 1000 ∧ SlI ns lo hi ms ∧ ∀ D, Q (.ref D) v3 (LI D ms :: H3))
    (hs : ∀ l m : Addr, subscripted (.Slice lower upper none p) false (.ref l) (.ref m) = operate [.ref m, .ref l] (getItem (.ref l) (.ref m)) := by intros; rfl) : JE k c S vals H (eval (.Subscript e (.Slice lower upper none p) pos) env) Q := fun ok F s g => by
  refine Subscript_ (wpAny_mono (h ok F s g) (fun a s1 ⟨x, v1, H1, ia, q, g1⟩ => ?_) fun _ _ x => x)
  refine wpAny_Slice (wpAny_mono (q ok F s1 g1) (fun vl s2 ⟨lo, v2, H2, il, q2, g2⟩ => ?_) fun _ _ x => x)
  refine wpAny_mono (q2 ok F s2 g2) (fun vu s3 ⟨hi, v3, H3, iu, ⟨l, vs, ns, ms, e1, hl, i1, hz, hsl, q3⟩, g3⟩ => ?_) fun _ _ x => x
  refine evalPart_none_step ?_
  subst e1
  have ia : a = .ref l := ia
  subst ia
  obtain ⟨mv, N, e, Fm, NN, nd, st, sl⟩ := g3.open_
  have hl' : s3.heap.IsList l (List.toArray vs) := by obtain ⟨o, h1, r⟩ := hl; exact ⟨o, Fm.keep _ _ h1, r⟩
  refine kba_turn (value' := .Name (Str.ofString "x") default) (fun r => rfl) (kmk_slice_ints Fm NN hl' il iu i1 (hsl.pick i1) rfl (fun D ws h' F' N' lt i _ _ => ⟨.ref D, v3, _, rfl, q3 D, good.new e F' N' lt nd st sl ⟨ws, 0, rfl, i⟩⟩) (hs _ _) (fun r => rfl) (by rw [List.size_toArray, i1.length, sizeLine_eq]; omega))
end
/-- what is shown of the body that the heap holds stands for every way to name that body -/
theorem lawIntro {f : Addr} {name qual : Str} {params : Arguments} {body : List Stmt} {scope : Scope} {dV kV doc pm cdv ct oc : Value} {an od : Option Addr} {osl : Array (Option Value)} {PJ : Str → Scope → List Stmt → Prop}
    (ho : ∀ w, List.lookup f (KF w) = some ⟨oc, od, .func (fnOf name qual params body scope dV kV doc pm an cdv ct), osl⟩) (h : PJ qual scope body) :
    ∀ w (name' qual' : Str) (params' : Arguments) (body' : List Stmt) (scope' : Scope) (dV' kV' doc' pm' cdv' ct' oc' : Value) (an' od' : Option Addr) (osl' : Array (Option Value)), List.lookup f (KF w) = some ⟨oc', od', .func (fnOf name' qual' params' body' scope' dV' kV' doc' pm' an' cdv' ct'), osl'⟩ → PJ qual' scope' body' := by
  intro w name' qual' params' body' scope' dV' kV' doc' pm' cdv' ct' oc' an' od' osl' h'
  rw [ho w] at h'
  have e := Option.some.inj h'
  have e1 := congrArg (fun o : Obj => match o.data with | .func fd => (fd.qualname, fd.scope, fd.body) | _ => (qual, scope, .stmts body)) e
  have e2 : (qual, scope, FuncBody.stmts body) = (qual', scope', FuncBody.stmts body') := e1
  injection e2 with a1 a2
  injection a2 with a3 a4
  injection a4 with a5
  subst a1 a3 a5
  exact h
set_option maxHeartbeats 1000000
theorem fill_all : (fun (_ : OpenLaw) (_ : Params → Frag) => True) PySem.Challenge.rw_np0070_01 N70.hd.heap_1 := by k_fill; trivial
def downc (c : Int) : Int := if (65 ≤ c ∧ c ≤ 90) ∨ (192 ≤ c ∧ c ≤ 222 ∧ c ≠ 215) then c + 32 else c
theorem downcase_sp (x : Int) : Sp (σ := Unit) (.ref 28) [.int x] [] 2 (fun _ => True) (fun _ => .int (downc x)) (fun _ R => R) := by
  refine' Sp.intro (kb := 0) (nm := [st "code"]) ⟨?ho, ?hcd, ?hS, ?hco, ?hgen, ?hcell⟩ (fun vs => [st "code"].zip vs) [some (.int x)] (fun _ _ => rfl) ?hbind ?hloc ?hv ?jb
  case ho => intro w; show (_ : _) = _; unfold KF; k_is
  case hcd => intro w; show (_ : _) = _; unfold KF; k_is
  case hS => exact ⟨rfl, by decide +kernel, by decide +kernel⟩
  case hco => exact rfl
  case hgen => exact rfl
  case hcell => exact rfl
  case hbind => exact fun w s X => all1 fun a0 _ => BindsTo.of_eq (by kernel_rfl)
  case hloc => exact all1 fun a0 _ => rfl
  case hv => exact all1 fun a0 i0 => ⟨⟨a0, rfl, i0⟩, trivial⟩
  intro c
  refine' J.if1 ?_
  refine' JT.or ?_
  refine' JT.chain ?_
  refine' J.cint ?_
  refine' J.name .hd ?_
  with_reducible refine' CmpT.le ?_ ?_
  intro h3
  refine' J.cint ?_
  with_reducible refine' CmpT.le ?_ ?_
  intro h4
  refine' J.ret ?_
  refine' J.bin ?_
  refine' J.name .hd ?_
  refine' J.cint ?_
  with_reducible refine' BinV.add ?_
  with_reducible refine' Seq.rt ?_
  refine' EndQ.mk () trivial ?_ ?_
  refine' FlV.int ?_
  rotate_left
  exact Ent.nil
  intro h4
  refine' JT.or ?_
  refine' JT.and ?_
  refine' JT.chain ?_
  refine' J.cint ?_
  refine' J.name .hd ?_
  with_reducible refine' CmpT.le ?_ ?_
  intro h5
  refine' J.cint ?_
  with_reducible refine' CmpT.le ?_ ?_
  intro h6
  refine' JT.and ?_
  refine' JT.cmp ?_
  refine' J.name .hd ?_
  refine' J.cint ?_
  with_reducible refine' CmpT.ne ?_ ?_
  intro h7
  refine' JT.and0 ?_
  refine' J.ret ?_
  refine' J.bin ?_
  refine' J.name .hd ?_
  refine' J.cint ?_
  with_reducible refine' BinV.add ?_
  with_reducible refine' Seq.rt ?_
  refine' EndQ.mk () trivial ?_ ?_
  refine' FlV.int ?_
  rotate_left
  exact Ent.nil
  intro h7
  refine' JT.or0 ?_
  refine' J.ret ?_
  refine' J.name .hd ?_
  refine' EndQ.mk () trivial ?_ ?_
  refine' FlV.int ?_
  rotate_left
  exact Ent.nil
  intro h6
  refine' JT.or0 ?_
  refine' J.ret ?_
  refine' J.name .hd ?_
  refine' EndQ.mk () trivial ?_ ?_
  refine' FlV.int ?_
  rotate_left
  exact Ent.nil
  intro h5
  refine' JT.or0 ?_
  refine' J.ret ?_
  refine' J.name .hd ?_
  refine' EndQ.mk () trivial ?_ ?_
  refine' FlV.int ?_
  rotate_left
  exact Ent.nil
  intro h3
  refine' JT.or ?_
  refine' JT.and ?_
  refine' JT.chain ?_
  refine' J.cint ?_
  refine' J.name .hd ?_
  with_reducible refine' CmpT.le ?_ ?_
  intro h4
  exfalso; omega
  intro h4
  refine' JT.or0 ?_
  refine' J.ret ?_
  refine' J.name .hd ?_
  refine' EndQ.mk () trivial ?_ ?_
  refine' FlV.int ?_
  rotate_left
  exact Ent.nil
  all_goals (first | exact (if_pos (by omega)).symm | exact (if_neg (by omega)).symm)
theorem fold_sp (x : Int) : Sp (σ := Unit) (.ref 35) [.int x] [] 4 (fun _ => True) (fun _ => .int (downc x)) (fun _ R => R) := by
  refine' Sp.intro (kb := 2) (nm := [st "code"]) ⟨?ho, ?hcd, ?hS, ?hco, ?hgen, ?hcell⟩ (fun vs => [st "code"].zip vs) [some (.int x)] (fun _ _ => rfl) ?hbind ?hloc ?hv ?jb
  case ho => intro w; show (_ : _) = _; unfold KF; k_is
  case hcd => intro w; show (_ : _) = _; unfold KF; k_is
  case hS => exact ⟨rfl, by decide +kernel, by decide +kernel⟩
  case hco => exact rfl
  case hgen => exact rfl
  case hcell => exact rfl
  case hbind => exact fun w s X => all1 fun a0 _ => BindsTo.of_eq (by kernel_rfl)
  case hloc => exact all1 fun a0 _ => rfl
  case hv => exact all1 fun a0 i0 => ⟨⟨a0, rfl, i0⟩, trivial⟩
  intro c
  refine' J.ret ?_
  refine' J.callG ⟨by kernel_rfl, by kernel_rfl⟩ g_downcase kg_downcase ?_
  refine' J.args1 ?_
  refine' J.name .hd ?_
  refine' Sp.use (downcase_sp _) .nil (Nat.le_of_ble_eq_true rfl) ?_
  intro _ _
  exact EndQ.mk () trivial rfl (Ent.refl _)
theorem GOf.len {cs text : List Int} {gs ge : Int} (h : GOf cs gs ge text) : (text.length : Int) = gs + ((cs.length : Int) - ge) := by
  obtain ⟨h1, h2, h3, h4, -⟩ := h
  rw [h4]; simp only [List.length_append, List.length_take, List.length_drop]; omega
theorem GOf.lo {cs text : List Int} {gs ge i : Int} (h : GOf cs gs ge text) (h0 : 0 ≤ i) (h1 : i < gs) : cs.getD i.toNat 0 = text.getD i.toNat 0 := by
  obtain ⟨g1, g2, g3, g4, -⟩ := h
  rw [g4]
  simp only [List.getD_eq_getElem?_getD]
  rw [List.getElem?_append_left (by rw [List.length_take]; omega), List.getElem?_take_of_lt (by omega)]
theorem GOf.hi {cs text : List Int} {gs ge i : Int} (h : GOf cs gs ge text) (h0 : gs ≤ i) (h1 : i < (text.length : Int)) : cs.getD (i - gs + ge).toNat 0 = text.getD i.toNat 0 := by
  have := h.len
  obtain ⟨g1, g2, g3, g4, -⟩ := h
  rw [g4]
  simp only [List.getD_eq_getElem?_getD]
  rw [List.getElem?_append_right (by rw [List.length_take]; omega), List.getElem?_drop, List.length_take]
  congr 2
  omega
theorem GOf.le {cs text : List Int} {gs ge : Int} (h : GOf cs gs ge text) : text.length ≤ 1000 := by
  have := h.len
  obtain ⟨g1, g2, g3, g4, g5⟩ := h
  omega
/-- the code at a place (1 is the first), -1 outside -/
def codeAt (text : List Int) (p : Int) : Int := if p < 1 ∨ (text.length : Int) + 1 ≤ p then -1 else text.getD (p - 1).toNat 0
theorem codeAt_out {text : List Int} {p : Int} (h : p < 1 ∨ (text.length : Int) + 1 ≤ p) : codeAt text p = -1 := by unfold codeAt; rw [if_pos h]
theorem codeAt_in {text : List Int} {p : Int} (h1 : 1 ≤ p) (h2 : p ≤ (text.length : Int)) : codeAt text p = text.getD (p - 1).toNat 0 := by unfold codeAt; rw [if_neg (by omega)]
theorem gap_code_sp {g cl : Addr} {cs text : List Int} {gs ge i : Int} (h : GOf cs gs ge text) (h0 : 0 ≤ i) (h1 : i < (text.length : Int)) : Sp (σ := Unit) (.ref 245) [.ref g, .int i] [OB g 304 (gapF cl gs ge), LI cl cs] 2 (fun _ => True) (fun _ => .int (text.getD i.toNat 0)) (fun _ R => OB g 304 (gapF cl gs ge) :: LI cl cs :: R) := by
  have gl := h.len
  obtain ⟨g1, g2, g3, -, g5⟩ := id h
  refine' Sp.intro (kb := 0) (nm := [st "self", st "at"]) ⟨?ho, ?hcd, ?hS, ?hco, ?hgen, ?hcell⟩ (fun vs => [st "self", st "at"].zip vs) [some (.ref g), some (.int i)] (fun _ _ => rfl) ?hbind ?hloc ?hv ?jb
  case ho => intro w; show (_ : _) = _; unfold KF; k_is
  case hcd => intro w; show (_ : _) = _; unfold KF; k_is
  case hS => exact ⟨rfl, by decide +kernel, by decide +kernel⟩
  case hco => exact rfl
  case hgen => exact rfl
  case hcell => exact rfl
  case hbind => exact fun w s X => all2 fun a0 _ a1 _ => BindsTo.of_eq (by kernel_rfl)
  case hloc => exact all2 fun a0 _ a1 _ => rfl
  case hv => exact all2 fun a0 i0 a1 i1 => ⟨⟨a0, rfl, i0⟩, ⟨a1, rfl, i1⟩, trivial⟩
  intro c
  refine' J.if1 ?_
  refine' JT.cmp ?_
  refine' J.name (.tl .hd) ?_
  refine' J.attr ?_
  refine' J.name .hd ?_
  with_reducible refine' GG.gap_start .hd ?_
  with_reducible refine' CmpT.lt ?_ ?_
  intro h18
  refine' J.ret ?_
  refine' J.sub ?_
  refine' J.attr ?_
  refine' J.name .hd ?_
  with_reducible refine' GG.cells .hd ?_
  refine' J.name (.tl .hd) ?_
  refine' SubV.li (.tl .hd) (by omega) (by omega) (by omega) ?_
  with_reducible refine' Seq.rt ?_
  refine' EndQ.mk () trivial ?_ ?_
  refine' FlV.int ?_
  rotate_left
  with_reducible refine' Ent.sel .hd ?_
  with_reducible refine' Ent.sel .hd ?_
  exact Ent.nil
  intro h18
  refine' J.ret ?_
  refine' J.sub ?_
  refine' J.attr ?_
  refine' J.name .hd ?_
  with_reducible refine' GG.cells .hd ?_
  refine' J.bin ?_
  refine' J.bin ?_
  refine' J.name (.tl .hd) ?_
  refine' J.attr ?_
  refine' J.name .hd ?_
  with_reducible refine' GG.gap_start .hd ?_
  with_reducible refine' BinV.sub ?_
  refine' J.attr ?_
  refine' J.name .hd ?_
  with_reducible refine' GG.gap_end .hd ?_
  with_reducible refine' BinV.add ?_
  refine' SubV.li (.tl .hd) (by omega) (by omega) (by omega) ?_
  refine' EndQ.mk () trivial ?_ ?_
  refine' FlV.int ?_
  rotate_left
  with_reducible refine' Ent.sel .hd ?_
  with_reducible refine' Ent.sel .hd ?_
  exact Ent.nil
  · exact h.lo h0 (by assumption)
  · exact h.hi (by omega) h1
theorem code_at_sp {b : Addr} {text : List Int} {p : Int} : Sp (σ := Unit) (.ref 470) [.ref b, .int p] [BUF b text] 4 (fun _ => True) (fun _ => .int (codeAt text p)) (fun _ R => BUF b text :: R) := by
  refine' Sp.intro (kb := 2) (nm := [st "self", st "place"]) ⟨?ho, ?hcd, ?hS, ?hco, ?hgen, ?hcell⟩ (fun vs => [st "self", st "place"].zip vs) [some (.ref b), some (.int p)] (fun _ _ => rfl) ?hbind ?hloc ?hv ?jb
  case ho => intro w; show (_ : _) = _; unfold KF; k_is
  case hcd => intro w; show (_ : _) = _; unfold KF; k_is
  case hS => exact ⟨rfl, by decide +kernel, by decide +kernel⟩
  case hco => exact rfl
  case hgen => exact rfl
  case hcell => exact rfl
  case hbind => exact fun w s X => all2 fun a0 _ a1 _ => BindsTo.of_eq (by kernel_rfl)
  case hloc => exact all2 fun a0 _ a1 _ => rfl
  case hv => exact all2 fun a0 i0 a1 i1 => ⟨⟨a0, rfl, i0⟩, ⟨a1, rfl, i1⟩, trivial⟩
  intro c
  refine' BUF.unf .hd ?_
  intro g cl mr rw ls cs gs ge pt ti ci h
  refine' J.if1 ?_
  refine' JT.or ?_
  refine' JT.cmp ?_
  refine' J.name (.tl .hd) ?_
  refine' J.attr ?_
  refine' J.name .hd ?_
  with_reducible refine' GB.begv .hd ?_
  with_reducible refine' CmpT.lt ?_ ?_
  intro h17
  refine' J.ret ?_
  refine' J.neg ?_
  with_reducible refine' Seq.rt ?_
  refine' EndQ.mk () trivial ?_ ?_
  refine' FlV.int ?_
  rotate_left
  refine' BUF.ent (.cons .hd (.cons .hd (.cons .hd (.cons .hd (.cons .hd (.cons .hd .nil)))))) (by assumption) rfl ?_
  exact Ent.nil
  intro h17
  refine' JT.or ?_
  refine' JT.cmp ?_
  refine' J.name (.tl .hd) ?_
  refine' J.attr ?_
  refine' J.name .hd ?_
  with_reducible refine' GB.zv .hd ?_
  with_reducible refine' CmpT.ge ?_ ?_
  intro h18
  refine' J.ret ?_
  refine' J.neg ?_
  with_reducible refine' Seq.rt ?_
  refine' EndQ.mk () trivial ?_ ?_
  refine' FlV.int ?_
  rotate_left
  refine' BUF.ent (.cons .hd (.cons .hd (.cons .hd (.cons .hd (.cons .hd (.cons .hd .nil)))))) (by assumption) rfl ?_
  exact Ent.nil
  intro h18
  refine' JT.or0 ?_
  refine' J.ret ?_
  refine' J.meth ?_
  refine' J.attr ?_
  refine' J.name .hd ?_
  with_reducible refine' GB.text .hd ?_
  refine' MetV.mk (a := OB _ 304 (gapF _ _ _)) (.tl .hd) (GAP.recv (by decide +kernel)) m304_code ?_
  refine' J.args1 ?_
  refine' J.bin ?_
  refine' J.name (.tl .hd) ?_
  refine' J.cint ?_
  with_reducible refine' BinV.sub ?_
  refine' Sp.use (gap_code_sp (by assumption) (by omega) (by omega)) (.cons (.tl .hd) (.cons (.tl .hd) .nil)) (Nat.le_of_ble_eq_true rfl) ?_
  intro _ _
  refine' EndQ.mk () trivial ?_ ?_
  refine' FlV.int ?_
  rotate_left
  refine' BUF.ent (.cons (.tl (.tl .hd)) (.cons .hd (.cons .hd (.cons .hd (.cons .hd (.cons .hd .nil)))))) (by assumption) rfl ?_
  exact Ent.nil
  · exact (codeAt_out (.inl (by omega))).symm
  · exact (codeAt_out (.inr (by omega))).symm
  · exact (codeAt_in (by omega) (by omega)).symm
theorem begin_sp {b : Addr} {text : List Int} : Sp (σ := Unit) (.ref 449) [.ref b] [BUF b text] 2 (fun _ => True) (fun _ => .int 1) (fun _ R => BUF b text :: R) := by
  refine' Sp.intro (kb := 0) (nm := [st "self"]) ⟨?ho, ?hcd, ?hS, ?hco, ?hgen, ?hcell⟩ (fun vs => [st "self"].zip vs) [some (.ref b)] (fun _ _ => rfl) ?hbind ?hloc ?hv ?jb
  case ho => intro w; show (_ : _) = _; unfold KF; k_is
  case hcd => intro w; show (_ : _) = _; unfold KF; k_is
  case hS => exact ⟨rfl, by decide +kernel, by decide +kernel⟩
  case hco => exact rfl
  case hgen => exact rfl
  case hcell => exact rfl
  case hbind => exact fun w s X => all1 fun a0 _ => BindsTo.of_eq (by kernel_rfl)
  case hloc => exact all1 fun a0 _ => rfl
  case hv => exact all1 fun a0 i0 => ⟨⟨a0, rfl, i0⟩, trivial⟩
  intro c
  refine' J.ret ?_
  refine' J.attr ?_
  refine' J.name .hd ?_
  with_reducible refine' GC.begv .hd ?_
  exact EndQ.mk () trivial rfl (Ent.refl _)
theorem end_sp {b : Addr} {text : List Int} : Sp (σ := Unit) (.ref 456) [.ref b] [BUF b text] 2 (fun _ => True) (fun _ => .int ((text.length : Int) + 1)) (fun _ R => BUF b text :: R) := by
  refine' Sp.intro (kb := 0) (nm := [st "self"]) ⟨?ho, ?hcd, ?hS, ?hco, ?hgen, ?hcell⟩ (fun vs => [st "self"].zip vs) [some (.ref b)] (fun _ _ => rfl) ?hbind ?hloc ?hv ?jb
  case ho => intro w; show (_ : _) = _; unfold KF; k_is
  case hcd => intro w; show (_ : _) = _; unfold KF; k_is
  case hS => exact ⟨rfl, by decide +kernel, by decide +kernel⟩
  case hco => exact rfl
  case hgen => exact rfl
  case hcell => exact rfl
  case hbind => exact fun w s X => all1 fun a0 _ => BindsTo.of_eq (by kernel_rfl)
  case hloc => exact all1 fun a0 _ => rfl
  case hv => exact all1 fun a0 i0 => ⟨⟨a0, rfl, i0⟩, trivial⟩
  intro c
  refine' J.ret ?_
  refine' J.attr ?_
  refine' J.name .hd ?_
  with_reducible refine' GC.zv .hd ?_
  exact EndQ.mk () trivial rfl (Ent.refl _)
theorem reached_sp {b : Addr} {text : List Int} {x y : Int} (h1 : 1 ≤ x ∧ x ≤ (text.length : Int) + 1) (h2 : 1 ≤ y ∧ y ≤ (text.length : Int) + 1) : Sp (σ := Addr) (.ref 69) [.ref b, .int x, .int y] [BUF b text] 2 (fun _ => True) (fun q => .ref q) (fun q R => TP q [.int (min x y), .int (max x y)] :: BUF b text :: R) := by
  refine' Sp.intro (kb := 0) (nm := [st "buffer", st "start", st "end", st "low", st "high"]) ⟨?ho, ?hcd, ?hS, ?hco, ?hgen, ?hcell⟩ (fun vs => [st "buffer", st "start", st "end"].zip vs) [some (.ref b), some (.int x), some (.int y), none, none] (fun _ _ => rfl) ?hbind ?hloc ?hv ?jb
  case ho => intro w; show (_ : _) = _; unfold KF; k_is
  case hcd => intro w; show (_ : _) = _; unfold KF; k_is
  case hS => exact ⟨rfl, by decide +kernel, by decide +kernel⟩
  case hco => exact rfl
  case hgen => exact rfl
  case hcell => exact rfl
  case hbind => exact fun w s X => all3 fun a0 _ a1 _ a2 _ => BindsTo.of_eq (by kernel_rfl)
  case hloc => exact all3 fun a0 _ a1 _ a2 _ => rfl
  case hv => exact all3 fun a0 i0 a1 i1 a2 i2 => ⟨⟨a0, rfl, i0⟩, ⟨a1, rfl, i1⟩, ⟨a2, rfl, i2⟩, trivial⟩
  intro c
  refine' J.asgW2 (x1 := st "low") (x2 := st "high") ?_
  refine' J.tuple ?_
  refine' J.args ?_
  refine' J.callB (id := "min") ⟨by kernel_rfl, by kernel_rfl⟩ blt_min ?_
  refine' J.args ?_
  refine' J.name (.tl .hd) ?_
  refine' J.args1 ?_
  refine' J.name (.tl (.tl .hd)) ?_
  with_reducible refine' JC.minI ?_
  refine' J.args1 ?_
  refine' J.callB (id := "max") ⟨by kernel_rfl, by kernel_rfl⟩ blt_max ?_
  refine' J.args ?_
  refine' J.name (.tl .hd) ?_
  refine' J.args1 ?_
  refine' J.name (.tl (.tl .hd)) ?_
  with_reducible refine' JC.maxI ?_
  refine ⟨by first | exact Nat.le_of_ble_eq_true rfl | omega, ?_⟩
  intro D8
  refine' UnpW2.mk .hd (.tl (.tl (.tl (.tl .hd)))) (.tl (.tl (.tl .hd))) ?_
  refine' J.if1 ?_
  refine' JT.or ?_
  refine' JT.cmp ?_
  refine' J.name (.tl (.tl (.tl .hd))) ?_
  refine' J.attr ?_
  refine' J.name .hd ?_
  with_reducible refine' GC.begv .hd ?_
  with_reducible refine' CmpT.lt ?_ ?_
  intro h9
  exfalso; omega
  intro h9
  refine' JT.or ?_
  refine' JT.cmp ?_
  refine' J.name (.tl (.tl (.tl (.tl .hd)))) ?_
  refine' J.attr ?_
  refine' J.name .hd ?_
  with_reducible refine' GC.zv .hd ?_
  with_reducible refine' CmpT.gt ?_ ?_
  intro h10
  exfalso; omega
  intro h10
  refine' JT.or0 ?_
  refine' J.ret ?_
  refine' J.tuple ?_
  refine' J.args ?_
  refine' J.name (.tl (.tl (.tl .hd))) ?_
  refine' J.args1 ?_
  refine' J.name (.tl (.tl (.tl (.tl .hd)))) ?_
  refine ⟨by first | exact Nat.le_of_ble_eq_true rfl | omega, ?_⟩
  intro D11
  refine' EndQ.mk _ trivial rfl (Ent.refl _)
def LSP (text : List Int) (p e : Int) : Prop := 1 ≤ e ∧ e ≤ p ∧ (e = 1 ∨ codeAt text (e - 1) = 10) ∧ ∀ i, e ≤ i → i < p → codeAt text i ≠ 10
def LEP (text : List Int) (p e : Int) : Prop := p ≤ e ∧ e ≤ (text.length : Int) + 1 ∧ (e = (text.length : Int) + 1 ∨ codeAt text e = 10) ∧ ∀ i, p ≤ i → i < e → codeAt text i ≠ 10
theorem line_start_sp {b : Addr} {text : List Int} {p : Int} (h1 : 1 ≤ p ∧ p ≤ (text.length : Int) + 1) : Sp (σ := Int) (.ref 140) [.ref b, .int p] [BUF b text] 6 (LSP text p) (fun e => .int e) (fun _ R => BUF b text :: R) := by
  refine' Sp.intro (kb := 4) (nm := [st "view", st "place", st "at"]) ⟨?ho, ?hcd, ?hS, ?hco, ?hgen, ?hcell⟩ (fun vs => [st "view", st "place"].zip vs) [some (.ref b), some (.int p), none] (fun _ _ => rfl) ?hbind ?hloc ?hv ?jb
  case ho => intro w; show (_ : _) = _; unfold KF; k_is
  case hcd => intro w; show (_ : _) = _; unfold KF; k_is
  case hS => exact ⟨rfl, by decide +kernel, by decide +kernel⟩
  case hco => exact rfl
  case hgen => exact rfl
  case hcell => exact rfl
  case hbind => exact fun w s X => all2 fun a0 _ a1 _ => BindsTo.of_eq (by kernel_rfl)
  case hloc => exact all2 fun a0 _ a1 _ => rfl
  case hv => exact all2 fun a0 i0 a1 i1 => ⟨⟨a0, rfl, i0⟩, ⟨a1, rfl, i1⟩, trivial⟩
  intro c
  refine' J.asg ?_
  refine' J.name (.tl .hd) ?_
  refine' StoN.mk (.tl (.tl .hd)) ?_
  refine' J.whil (fun z : Int => [some (.ref b), some (.int p), some (.int z)]) (fun _ => [BUF b text]) (fun z => 1 ≤ z ∧ z ≤ p ∧ ∀ i, z ≤ i → i < p → codeAt text i ≠ 10) (fun z => z.toNat) p ⟨h1.1, Int.le_refl _, fun i a b => absurd a (Int.not_le.mpr b)⟩ (Le.refl _) (Ent.refl _) ?_
  intro z ⟨hq1, hq2, hq3⟩
  refine' JT.and ?_
  refine' JT.cmp ?_
  refine' J.name (.tl (.tl .hd)) ?_
  refine' J.meth0 ?_
  refine' J.name .hd ?_
  refine' MetV.mk (a := BUF _ _) .hd (BUF.recv (by decide +kernel)) m515_begin ?_
  refine' Sp.use (begin_sp) (.cons .hd .nil) (Nat.le_of_ble_eq_true rfl) ?_
  intro _ _
  with_reducible refine' CmpT.gt ?_ ?_
  intro h13
  refine' JT.and ?_
  refine' JT.cmp ?_
  refine' J.meth ?_
  refine' J.name .hd ?_
  refine' MetV.mk (a := BUF _ _) .hd (BUF.recv (by decide +kernel)) m515_code_at ?_
  refine' J.args1 ?_
  refine' J.bin ?_
  refine' J.name (.tl (.tl .hd)) ?_
  refine' J.cint ?_
  with_reducible refine' BinV.sub ?_
  refine' Sp.use (code_at_sp) (.cons .hd .nil) (Nat.le_of_ble_eq_true rfl) ?_
  intro _ _
  refine' J.glob ⟨by kernel_rfl, by kernel_rfl⟩ glob_newline (sv := .int 10) ⟨_, rfl⟩ ?_
  with_reducible refine' CmpT.ne ?_ ?_
  intro h16
  refine' JT.and0 ?_
  refine' J.asg ?_
  refine' J.bin ?_
  refine' J.name (.tl (.tl .hd)) ?_
  refine' J.cint ?_
  with_reducible refine' BinV.sub ?_
  refine' StoN.mk (.tl (.tl .hd)) ?_
  refine' J.nil ?_
  rotate_left
  intro h16
  refine' J.ret ?_
  refine' J.name (.tl (.tl .hd)) ?_
  rotate_left
  intro h13
  refine' J.ret ?_
  refine' J.name (.tl (.tl .hd)) ?_
  rotate_left
  · refine' WQ.nx (z - 1) ⟨Int.le_sub_one_of_lt (by assumption), Int.le_trans (Int.sub_le_self _ (by decide)) hq2, fun i c d => ?_⟩ (by omega) (Le.refl _) (Ent.refl _)
    by_cases e : i = z - 1
    · rw [e]; assumption
    · exact hq3 i (by omega) d
  · exact EndQ.mk z ⟨hq1, hq2, .inr (by assumption), hq3⟩ rfl (Ent.refl _)
  · exact EndQ.mk z ⟨hq1, hq2, .inl (by omega), hq3⟩ rfl (Ent.refl _)
theorem line_end_sp {b : Addr} {text : List Int} {p : Int} (h1 : 1 ≤ p ∧ p ≤ (text.length : Int) + 1) : Sp (σ := Int) (.ref 147) [.ref b, .int p] [BUF b text] 6 (LEP text p) (fun e => .int e) (fun _ R => BUF b text :: R) := by
  refine' Sp.intro (kb := 4) (nm := [st "view", st "place", st "at"]) ⟨?ho, ?hcd, ?hS, ?hco, ?hgen, ?hcell⟩ (fun vs => [st "view", st "place"].zip vs) [some (.ref b), some (.int p), none] (fun _ _ => rfl) ?hbind ?hloc ?hv ?jb
  case ho => intro w; show (_ : _) = _; unfold KF; k_is
  case hcd => intro w; show (_ : _) = _; unfold KF; k_is
  case hS => exact ⟨rfl, by decide +kernel, by decide +kernel⟩
  case hco => exact rfl
  case hgen => exact rfl
  case hcell => exact rfl
  case hbind => exact fun w s X => all2 fun a0 _ a1 _ => BindsTo.of_eq (by kernel_rfl)
  case hloc => exact all2 fun a0 _ a1 _ => rfl
  case hv => exact all2 fun a0 i0 a1 i1 => ⟨⟨a0, rfl, i0⟩, ⟨a1, rfl, i1⟩, trivial⟩
  intro c
  refine' J.asg ?_
  refine' J.name (.tl .hd) ?_
  refine' StoN.mk (.tl (.tl .hd)) ?_
  refine' J.whil (fun z : Int => [some (.ref b), some (.int p), some (.int z)]) (fun _ => [BUF b text]) (fun z => p ≤ z ∧ z ≤ (text.length : Int) + 1 ∧ ∀ i, p ≤ i → i < z → codeAt text i ≠ 10) (fun z => ((text.length : Int) + 1 - z).toNat) p ⟨Int.le_refl _, h1.2, fun i a b => absurd a (Int.not_le.mpr b)⟩ (Le.refl _) (Ent.refl _) ?_
  intro z ⟨hq1, hq2, hq3⟩
  refine' JT.and ?_
  refine' JT.cmp ?_
  refine' J.name (.tl (.tl .hd)) ?_
  refine' J.meth0 ?_
  refine' J.name .hd ?_
  refine' MetV.mk (a := BUF _ _) .hd (BUF.recv (by decide +kernel)) m515_end ?_
  refine' Sp.use (end_sp) (.cons .hd .nil) (Nat.le_of_ble_eq_true rfl) ?_
  intro _ _
  with_reducible refine' CmpT.lt ?_ ?_
  intro h13
  refine' JT.and ?_
  refine' JT.cmp ?_
  refine' J.meth ?_
  refine' J.name .hd ?_
  refine' MetV.mk (a := BUF _ _) .hd (BUF.recv (by decide +kernel)) m515_code_at ?_
  refine' J.args1 ?_
  refine' J.name (.tl (.tl .hd)) ?_
  refine' Sp.use (code_at_sp) (.cons .hd .nil) (Nat.le_of_ble_eq_true rfl) ?_
  intro _ _
  refine' J.glob ⟨by kernel_rfl, by kernel_rfl⟩ glob_newline (sv := .int 10) ⟨_, rfl⟩ ?_
  with_reducible refine' CmpT.ne ?_ ?_
  intro h16
  refine' JT.and0 ?_
  refine' J.asg ?_
  refine' J.bin ?_
  refine' J.name (.tl (.tl .hd)) ?_
  refine' J.cint ?_
  with_reducible refine' BinV.add ?_
  refine' StoN.mk (.tl (.tl .hd)) ?_
  refine' J.nil ?_
  rotate_left
  intro h16
  refine' J.ret ?_
  refine' J.name (.tl (.tl .hd)) ?_
  rotate_left
  intro h13
  refine' J.ret ?_
  refine' J.name (.tl (.tl .hd)) ?_
  rotate_left
  · refine' WQ.nx (z + 1) ⟨Int.le_trans hq1 (Int.le_add_of_nonneg_right (by decide)), by assumption, fun i c d => ?_⟩ (by omega) (Le.refl _) (Ent.refl _)
    by_cases e : i = z
    · rw [e]; assumption
    · exact hq3 i c (by omega)
  · exact EndQ.mk z ⟨hq1, hq2, .inr (by assumption), hq3⟩ rfl (Ent.refl _)
  · exact EndQ.mk z ⟨hq1, hq2, .inl (by omega), hq3⟩ rfl (Ent.refl _)
def eqc (f : Bool) (a b : Int) : Bool := a == b || (f && downc a == downc b)
def fitsB (text own : List Int) (f : Bool) (p : Int) : Bool := (List.range own.length).all fun (i : Nat) => eqc f (codeAt text (p + (i : Int))) (own.getD i 0)
theorem fits_true {text own : List Int} {f : Bool} {p : Int} (h : ∀ j : Nat, j < own.length → eqc f (codeAt text (p + (j : Int))) (own.getD j 0) = true) : fitsB text own f p = true := by
  unfold fitsB
  rw [List.all_eq_true]
  exact fun j hj => h j (List.mem_range.mp hj)
theorem fits_false {text own : List Int} {f : Bool} {p : Int} {k : Nat} (h1 : k < own.length) (h : eqc f (codeAt text (p + k)) (own.getD k 0) = false) : fitsB text own f p = false := by
  rw [Bool.eq_false_iff]
  intro c
  unfold fitsB at c
  rw [List.all_eq_true] at c
  have q := c k (List.mem_range.mpr h1)
  rw [h] at q
  cases q
theorem eqc_same {f : Bool} {a b : Int} (h : a = b) : eqc f a b = true := by unfold eqc; simp [h]
theorem eqc_fold {f : Bool} {a b : Int} (h : f = true) (e : downc a = downc b) : eqc f a b = true := by unfold eqc; simp [h, e]
theorem eqc_no {f : Bool} {a b : Int} (h : a ≠ b) (e : f = false ∨ downc a ≠ downc b) : eqc f a b = false := by
  unfold eqc; rcases e with e | e <;> simp [h, e]
theorem below_succ {P : Nat → Prop} {i : Nat} (h : ∀ j : Nat, j < i → P j) (hi : P i) : ∀ j : Nat, j < i + 1 → P j := fun j hj => by
  rcases Nat.lt_succ_iff_lt_or_eq.mp hj with h1 | h1
  · exact h j h1
  · exact h1 ▸ hi
theorem i0n {n : Nat} : ((0 : Int) + (n : Int)).toNat = n := by rw [Int.zero_add]; rfl
theorem b0n {n : Nat} : ((n : Int) - 0).toNat = n := by rw [Int.sub_zero]; rfl
theorem lt0n {i n : Nat} (h : (i : Int) < (n : Int) - 0) : i < n := by rw [Int.sub_zero] at h; exact Int.ofNat_lt.mp h
section
variable {k : Nat} {c : Cx} {S : Fn} {vals : Vals} {H R : List Asn} {Q : QE} {b x lo : Addr} {text own : List Int} {p bd : Int} {f : Bool}
theorem fits_sp (hol : own.length ≤ 10) : Sp (σ := Unit) (.ref 168) [.ref x, .ref b, .int p] [OB x 178 [(st "codes", .ref lo), (st "is_folded", .bool f)], LI lo own, BUF b text] 6 (fun _ => True) (fun _ => .bool (fitsB text own f p)) (fun _ R => OB x 178 [(st "codes", .ref lo), (st "is_folded", .bool f)] :: LI lo own :: BUF b text :: R) := by
  refine' Sp.intro (kb := 4) (nm := [st "self", st "buffer", st "place", st "at", st "own"]) ⟨?ho, ?hcd, ?hS, ?hco, ?hgen, ?hcell⟩ (fun vs => [st "self", st "buffer", st "place"].zip vs) [some (.ref x), some (.ref b), some (.int p), none, none] (fun _ _ => rfl) ?hbind ?hloc ?hv ?jb
  case ho => intro w; show (_ : _) = _; unfold KF; k_is
  case hcd => intro w; show (_ : _) = _; unfold KF; k_is
  case hS => exact ⟨rfl, by decide +kernel, by decide +kernel⟩
  case hco => exact rfl
  case hgen => exact rfl
  case hcell => exact rfl
  case hbind => exact fun w s X => all3 fun a0 _ a1 _ a2 _ => BindsTo.of_eq (by kernel_rfl)
  case hloc => exact all3 fun a0 _ a1 _ a2 _ => rfl
  case hv => exact all3 fun a0 i0 a1 i1 a2 i2 => ⟨⟨a0, rfl, i0⟩, ⟨a1, rfl, i1⟩, ⟨a2, rfl, i2⟩, trivial⟩
  intro c
  refine' J.forR (.tail _ (.tail _ (.tail _ (.head _)))) ?_
  refine' J.callT (T := "range") ⟨by kernel_rfl, by kernel_rfl⟩ blt_range ?_
  refine' J.args1 ?_
  refine' J.callB (id := "len") ⟨by kernel_rfl, by kernel_rfl⟩ blt_len ?_
  refine' J.args1 ?_
  refine' J.attr ?_
  refine' J.name .hd ?_
  with_reducible refine' GL.codes .hd ?_
  refine' JC.len (.tl .hd) (by omega) ?_
  with_reducible refine' JC.range1 ?_
  intro D10
  refine' RanV.mk (σ := Unit) (fun _ => [some (.ref x), some (.ref b), some (.int p), none, none]) (fun _ => [OB x 178 [(st "codes", .ref lo), (st "is_folded", .bool f)], LI lo own, BUF b text]) (fun i _ => ∀ j : Nat, j < i → eqc f (codeAt text (p + (j : Int))) (own.getD j 0) = true) () .hd ⟨by decide, by decide, by omega, by omega⟩ (fun _ h => nomatch h) (Le.refl _) (Ent.refl _) (fun i _ hi hz => ⟨_, .tl (.tl (.tl .hd)), ?_⟩) (fun _ hz => ?_)
  · refine' J.asg ?_
    refine' J.meth ?_
    refine' J.name (.tl .hd) ?_
    refine' MetV.mk (a := BUF _ _) (.tl (.tl .hd)) (BUF.recv (by decide +kernel)) m515_code_at ?_
    refine' J.args1 ?_
    refine' J.bin ?_
    refine' J.name (.tl (.tl .hd)) ?_
    refine' J.name (.tl (.tl (.tl .hd))) ?_
    with_reducible refine' BinV.add ?_
    refine' Sp.use (code_at_sp) (.cons (.tl (.tl .hd)) .nil) (Nat.le_of_ble_eq_true rfl) ?_
    intro _ _
    refine' StoN.mk (.tl (.tl (.tl (.tl .hd)))) ?_
    refine' J.iflast ?_
    refine' JT.and ?_
    refine' JT.cmp ?_
    refine' J.name (.tl (.tl (.tl (.tl .hd)))) ?_
    refine' J.sub ?_
    refine' J.attr ?_
    refine' J.name .hd ?_
    with_reducible refine' GL.codes (.tl .hd) ?_
    refine' J.name (.tl (.tl (.tl .hd))) ?_
    refine' SubV.li (.tl (.tl .hd)) (by omega) (by omega) (by omega) ?_
    with_reducible refine' CmpT.ne ?_ ?_
    intro h17
    refine' JT.and ?_
    refine' JT.not ?_
    refine' JT.and ?_
    refine' JT.plain ?_
    refine' J.attr ?_
    refine' J.name .hd ?_
    with_reducible refine' GL.is_folded (.tl .hd) ?_
    with_reducible refine' TruT.bool ?_ ?_
    intro h18
    refine' JT.and ?_
    refine' JT.cmp ?_
    refine' J.callG ⟨by kernel_rfl, by kernel_rfl⟩ g_fold kg_fold ?_
    refine' J.args1 ?_
    refine' J.name (.tl (.tl (.tl (.tl .hd)))) ?_
    refine' Sp.use (fold_sp _) .nil (Nat.le_of_ble_eq_true rfl) ?_
    intro _ _
    refine' J.callG ⟨by kernel_rfl, by kernel_rfl⟩ g_fold kg_fold ?_
    refine' J.args1 ?_
    refine' J.sub ?_
    refine' J.attr ?_
    refine' J.name .hd ?_
    with_reducible refine' GL.codes (.tl .hd) ?_
    refine' J.name (.tl (.tl (.tl .hd))) ?_
    refine' SubV.li (.tl (.tl .hd)) (by omega) (by omega) (by omega) ?_
    refine' Sp.use (fold_sp _) .nil (Nat.le_of_ble_eq_true rfl) ?_
    intro _ _
    with_reducible refine' CmpT.eq ?_ ?_
    intro h23
    refine' JT.and0 ?_
    refine' J.nil ?_
    rotate_left
    intro h23
    refine' JT.and0 ?_
    refine' J.ret ?_
    refine' J.cbool ?_
    with_reducible refine' FQ.rt ?_
    with_reducible refine' Seq.rt ?_
    refine' EndQ.mk () trivial ?_ ?_
    refine' FlV.bool ?_
    rotate_left
    with_reducible refine' Ent.sel (.tl .hd) ?_
    with_reducible refine' Ent.sel (.tl .hd) ?_
    with_reducible refine' Ent.sel .hd ?_
    exact Ent.nil
    intro h18
    refine' JT.and0 ?_
    refine' J.ret ?_
    refine' J.cbool ?_
    with_reducible refine' FQ.rt ?_
    with_reducible refine' Seq.rt ?_
    refine' EndQ.mk () trivial ?_ ?_
    refine' FlV.bool ?_
    rotate_left
    with_reducible refine' Ent.sel (.tl .hd) ?_
    with_reducible refine' Ent.sel (.tl .hd) ?_
    with_reducible refine' Ent.sel .hd ?_
    exact Ent.nil
    intro h17
    refine' J.nil ?_
    rotate_left
    · refine' FQ.nx () (below_succ hz ?_) ?_ ?_
      · rename downc _ = _ => e
        rw [i0n, Int.zero_add] at e
        exact eqc_fold (by assumption) e
      exact (.keep (.keep (.keep (.drop (.drop .nil)))))
      with_reducible refine' Ent.sel (.tl .hd) ?_
      with_reducible refine' Ent.sel (.tl .hd) ?_
      with_reducible refine' Ent.sel .hd ?_
      exact Ent.nil
    · refine' (fits_false (lt0n hi) ?_).symm
      rename ¬ codeAt _ _ = _ => d
      rename ¬ downc _ = _ => e
      rw [i0n, Int.zero_add] at e d
      exact eqc_no d (.inr e)
    · refine' (fits_false (lt0n hi) ?_).symm
      rename ¬ codeAt _ _ = _ => d
      rw [i0n, Int.zero_add] at d
      exact eqc_no d (.inl (by assumption))
    · refine' FQ.nx () (below_succ hz ?_) ?_ ?_
      · rename codeAt _ _ = _ => d
        rw [i0n, Int.zero_add] at d
        exact eqc_same d
      exact (.keep (.keep (.keep (.drop (.drop .nil)))))
      with_reducible refine' Ent.sel (.tl .hd) ?_
      with_reducible refine' Ent.sel (.tl .hd) ?_
      with_reducible refine' Ent.sel .hd ?_
      exact Ent.nil
  · with_reducible refine' Seq.nx ?_
    refine' J.ret ?_
    refine' J.cbool ?_
    refine' EndQ.mk () trivial ?_ ?_
    refine' FlV.bool ?_
    rotate_left
    with_reducible refine' Ent.sel .hd ?_
    with_reducible refine' Ent.sel .hd ?_
    with_reducible refine' Ent.sel .hd ?_
    exact Ent.nil
    exact (fits_true fun j hj => hz j (by rw [b0n]; exact hj)).symm
end
/-- a search by its places -/
theorem srch_at {g : Int → Bool} {p k : Int} {n : Nat} (hk : k = p + (n : Int)) (h : ∀ j : Nat, j < n → g (p + (j : Int)) = false) : ∀ i, p ≤ i → i < k → g i = false := by
  intro i a b
  have q := h (i - p).toNat (by omega)
  rwa [show p + (((i - p).toNat : Nat) : Int) = i by omega] at q
/-- matches one behind another -/
noncomputable def cntG (g : Int → Bool) (k hi : Int) : Nat → Int → Int
  | 0, _ => 0
  | n + 1, p => if p + k ≤ hi then (if g p = true then 1 + cntG g k hi n (p + k) else cntG g k hi n (p + 1)) else 0
theorem cntG_fuel {g : Int → Bool} {k hi : Int} (hk : 1 ≤ k) : ∀ (n m : Nat) (p : Int), hi + 1 - p ≤ n → hi + 1 - p ≤ m → cntG g k hi n p = cntG g k hi m p := by
  intro n
  induction n with
  | zero =>
    intro m p h1 h2
    cases m with
    | zero => rfl
    | succ m => simp only [cntG]; rw [if_neg (by omega)]
  | succ n ih =>
    intro m p h1 h2
    cases m with
    | zero => simp only [cntG]; rw [if_neg (by omega)]
    | succ m =>
      simp only [cntG]
      by_cases c : p + k ≤ hi
      · rw [if_pos c, if_pos c, ih m (p + k) (by omega) (by omega), ih m (p + 1) (by omega) (by omega)]
      · rw [if_neg c, if_neg c]
noncomputable def cnt (g : Int → Bool) (k hi p : Int) : Int := cntG g k hi (hi + 1 - p).toNat p
theorem cnt_out {g : Int → Bool} {k hi p : Int} (hk : 1 ≤ k) (h : hi < p + k) : cnt g k hi p = 0 := by
  unfold cnt
  cases (hi + 1 - p).toNat with
  | zero => rfl
  | succ n => simp only [cntG]; rw [if_neg (by omega)]
theorem cnt_hit {g : Int → Bool} {k hi p : Int} (hk : 1 ≤ k) (h : p + k ≤ hi) (e : g p = true) : cnt g k hi p = 1 + cnt g k hi (p + k) := by
  unfold cnt
  have : (hi + 1 - p).toNat = (hi + 1 - p).toNat - 1 + 1 := by omega
  rw [this]
  simp only [cntG]
  rw [if_pos h, if_pos e, cntG_fuel hk _ (hi + 1 - (p + k)).toNat (p + k) (by omega) (by omega)]
theorem cnt_miss {g : Int → Bool} {k hi p : Int} (hk : 1 ≤ k) (e : g p = false) : cnt g k hi p = cnt g k hi (p + 1) := by
  by_cases h : p + k ≤ hi
  · unfold cnt
    have : (hi + 1 - p).toNat = (hi + 1 - p).toNat - 1 + 1 := by omega
    rw [this]
    simp only [cntG]
    rw [if_pos h, if_neg (by rw [e]; exact Bool.false_ne_true), cntG_fuel hk _ (hi + 1 - (p + 1)).toNat (p + 1) (by omega) (by omega)]
  · rw [cnt_out hk (by omega), cnt_out hk (by omega)]
theorem cnt_skip {g : Int → Bool} {k hi : Int} (hk : 1 ≤ k) : ∀ (n : Nat) (p st : Int), st = p + n → (∀ i, p ≤ i → i < st → g i = false) → cnt g k hi p = cnt g k hi st := by
  intro n
  induction n with
  | zero => intro p st e _; rw [e]; simp
  | succ n ih =>
    intro p st e h
    rw [cnt_miss hk (h p (by omega) (by omega))]
    exact ih (p + 1) st (by omega) fun i a b => h i (by omega) b
theorem cnt_none {g : Int → Bool} {k hi p : Int} (hk : 1 ≤ k) (h : ∀ i, p ≤ i → i + k ≤ hi → g i = false) : cnt g k hi p = 0 := by
  by_cases c : p ≤ hi
  · rw [cnt_skip hk (hi + 1 - k - p).toNat p (p + ((hi + 1 - k - p).toNat : Int)) rfl fun i a b => h i a (by omega), cnt_out hk (by omega)]
  · exact cnt_out hk (by omega)
theorem cnt_some {g : Int → Bool} {k hi p st : Int} (hk : 1 ≤ k) (h0 : p ≤ st) (h1 : st + k ≤ hi) (e : g st = true) (h : ∀ i, p ≤ i → i < st → g i = false) : cnt g k hi p = 1 + cnt g k hi (st + k) := by
  rw [cnt_skip hk (st - p).toNat p st (by omega) h, cnt_hit hk h1 e]
def FoV : Option (Addr × Int) → SV | none => .none | some d => .ref d.1
def FoH (k : Int) (o : Option (Addr × Int)) (R : List Asn) : List Asn := match o with | none => R | some d => TP d.1 [.int d.2, .int (d.2 + k)] :: R
theorem FoH.fr {k : Int} {o : Option (Addr × Int)} {A R : List Asn} : FoH k o (A ++ R) = FoH k o A ++ R := by cases o <;> rfl
theorem FoH.mono {k : Int} {o : Option (Addr × Int)} {A R : List Asn} (h : Ent A R) : Ent (FoH k o A) (FoH k o R) := match o with | none => h | some _ => Ent.sel .hd h
def nxP (g : Int → Bool) (k p bd : Int) (o : Option (Addr × Int)) : Prop := match o with | none => ∀ i, p ≤ i → i + k ≤ bd → g i = false | some d => p ≤ d.2 ∧ d.2 + k ≤ bd ∧ g d.2 = true ∧ ∀ i, p ≤ i → i < d.2 → g i = false
def hmP (g : Int → Bool) (k lo hi : Int) (c : Int × Option (Addr × Int)) : Prop := match c.2 with
  | none => c.1 = cnt g k hi lo
  | some d => lo ≤ d.2 ∧ d.2 + k ≤ hi ∧ c.1 + 1 + cnt g k hi (d.2 + k) = cnt g k hi lo
def hmM (hi : Int) (c : Int × Option (Addr × Int)) : Nat := match c.2 with
  | none => 0
  | some d => (hi - d.2).toNat + 1
theorem hm_first {g : Int → Bool} {k lo hi : Int} {o : Option (Addr × Int)} (hk : 1 ≤ k) (h : nxP g k lo hi o) : hmP g k lo hi (0, o) := by
  cases o with
  | none => exact (cnt_none hk h).symm
  | some d =>
    obtain ⟨h1, h2, h3, h4⟩ := h
    refine ⟨h1, h2, ?_⟩
    rw [cnt_some hk h1 h2 h3 h4]
    show 0 + 1 + _ = _
    rw [Int.zero_add]
theorem hm_next {g : Int → Bool} {k lo hi mn : Int} {d : Addr × Int} {o : Option (Addr × Int)} (hk : 1 ≤ k) (h0 : hmP g k lo hi (mn, some d)) (h : nxP g k (d.2 + k) hi o) : hmP g k lo hi (mn + 1, o) ∧ hmM hi (mn + 1, o) < hmM hi (mn, some d) := by
  obtain ⟨h1, h2, h3⟩ := h0
  cases o with
  | none =>
    have e := cnt_none hk h
    refine ⟨?_, Nat.succ_pos _⟩
    show mn + 1 = _
    rw [← h3, e, Int.add_zero]
  | some b =>
    obtain ⟨g1, g2, g3, g4⟩ := h
    have e := cnt_some hk g1 g2 g3 g4
    refine ⟨⟨?_, g2, ?_⟩, ?_⟩
    · show lo ≤ b.2; omega
    · show mn + 1 + 1 + cnt g k hi (b.2 + k) = _; rw [← h3, e, Int.add_assoc (mn + 1)]
    · show (hi - b.2).toNat + 1 < (hi - d.2).toNat + 1
      omega
section
variable {k : Nat} {c : Cx} {S : Fn} {vals : Vals} {H R : List Asn} {Q : QE} {b x lo : Addr} {text own : List Int} {p bd : Int} {f : Bool}
theorem next_sp (hol : own.length ≤ 10) (hp : -10000 ≤ p ∧ p ≤ 10000 ∧ -10000 ≤ bd ∧ bd ≤ 10000) : Sp (σ := Option (Addr × Int)) (.ref 175) [.ref x, .ref b, .int p, .int bd] [OB x 178 [(st "codes", .ref lo), (st "is_folded", .bool f)], LI lo own, BUF b text] 8 (nxP (fitsB text own f) own.length p bd) FoV (fun o R => FoH own.length o (OB x 178 [(st "codes", .ref lo), (st "is_folded", .bool f)] :: LI lo own :: BUF b text :: R)) := by
  refine' Sp.intro (kb := 6) (nm := [st "self", st "buffer", st "place", st "bound", st "start"]) ⟨?ho, ?hcd, ?hS, ?hco, ?hgen, ?hcell⟩ (fun vs => [st "self", st "buffer", st "place", st "bound"].zip vs) [some (.ref x), some (.ref b), some (.int p), some (.int bd), none] (fun o _ => by cases o <;> rfl) ?hbind ?hloc ?hv ?jb
  case ho => intro w; show (_ : _) = _; unfold KF; k_is
  case hcd => intro w; show (_ : _) = _; unfold KF; k_is
  case hS => exact ⟨rfl, by decide +kernel, by decide +kernel⟩
  case hco => exact rfl
  case hgen => exact rfl
  case hcell => exact rfl
  case hbind => exact fun w s X => all4 fun a0 _ a1 _ a2 _ a3 _ => BindsTo.of_eq (by kernel_rfl)
  case hloc => exact all4 fun a0 _ a1 _ a2 _ a3 _ => rfl
  case hv => exact all4 fun a0 i0 a1 i1 a2 i2 a3 i3 => ⟨⟨a0, rfl, i0⟩, ⟨a1, rfl, i1⟩, ⟨a2, rfl, i2⟩, ⟨a3, rfl, i3⟩, trivial⟩
  intro c
  refine' J.forR (.tail _ (.tail _ (.tail _ (.tail _ (.head _))))) ?_
  refine' J.callT (T := "range") ⟨by kernel_rfl, by kernel_rfl⟩ blt_range ?_
  refine' J.args ?_
  refine' J.name (.tl (.tl .hd)) ?_
  refine' J.args1 ?_
  refine' J.bin ?_
  refine' J.bin ?_
  refine' J.name (.tl (.tl (.tl .hd))) ?_
  refine' J.callB (id := "len") ⟨by kernel_rfl, by kernel_rfl⟩ blt_len ?_
  refine' J.args1 ?_
  refine' J.attr ?_
  refine' J.name .hd ?_
  with_reducible refine' GL.codes .hd ?_
  refine' JC.len (.tl .hd) (by omega) ?_
  with_reducible refine' BinV.sub ?_
  refine' J.cint ?_
  with_reducible refine' BinV.add ?_
  with_reducible refine' JC.range2 ?_
  intro D12
  refine' RanV.mk (σ := Unit) (fun _ => [some (.ref x), some (.ref b), some (.int p), some (.int bd), none]) (fun _ => [OB x 178 [(st "codes", .ref lo), (st "is_folded", .bool f)], LI lo own, BUF b text]) (fun i _ => ∀ j : Nat, j < i → fitsB text own f (p + (j : Int)) = false) () .hd ⟨by omega, by omega, by omega, by omega⟩ (fun _ h => nomatch h) (Le.refl _) (Ent.refl _) (fun i _ hi hz => ⟨_, .tl (.tl (.tl (.tl .hd))), ?_⟩) (fun _ hz => ?_)
  · refine' J.iflast ?_
    refine' JT.plain ?_
    refine' J.meth ?_
    refine' J.name .hd ?_
    refine' MetV.mk (a := OB _ 178 [(st "codes", .ref _), (st "is_folded", .bool _)]) .hd (LOB.recv (by decide +kernel)) m178_fits ?_
    refine' J.args ?_
    refine' J.name (.tl .hd) ?_
    refine' J.args1 ?_
    refine' J.name (.tl (.tl (.tl (.tl .hd)))) ?_
    refine' Sp.use (fits_sp (by assumption)) (.cons .hd (.cons .hd (.cons .hd .nil))) (Nat.le_of_ble_eq_true rfl) ?_
    intro _ _
    with_reducible refine' TruT.bool ?_ ?_
    intro h19
    refine' J.ret ?_
    refine' J.tuple ?_
    refine' J.args ?_
    refine' J.name (.tl (.tl (.tl (.tl .hd)))) ?_
    refine' J.args1 ?_
    refine' J.bin ?_
    refine' J.name (.tl (.tl (.tl (.tl .hd)))) ?_
    refine' J.callB (id := "len") ⟨by kernel_rfl, by kernel_rfl⟩ blt_len ?_
    refine' J.args1 ?_
    refine' J.attr ?_
    refine' J.name .hd ?_
    with_reducible refine' GL.codes .hd ?_
    refine' JC.len (.tl .hd) (by omega) ?_
    with_reducible refine' BinV.add ?_
    refine ⟨by first | exact Nat.le_of_ble_eq_true rfl | omega, ?_⟩
    intro D20
    with_reducible refine' FQ.rt ?_
    with_reducible refine' Seq.rt ?_
    rotate_left
    intro h19
    refine' J.nil ?_
    rotate_left
    · exact EndQ.mk (some (_, _)) ⟨Int.le_add_of_nonneg_right (Int.natCast_nonneg _), by show p + (i : Int) + _ ≤ bd; omega, by assumption, srch_at rfl hz⟩ rfl (Ent.refl _)
    · refine' FQ.nx () (below_succ hz (by assumption)) ?_ ?_
      exact (.keep (.keep (.keep (.keep (.drop .nil)))))
      with_reducible refine' Ent.sel .hd ?_
      with_reducible refine' Ent.sel .hd ?_
      with_reducible refine' Ent.sel .hd ?_
      exact Ent.nil
  · with_reducible refine' Seq.nx ?_
    refine' J.ret ?_
    refine' J.cnone ?_
    exact EndQ.mk none (fun i a e => srch_at (k := bd - own.length + 1) (by omega) hz i a (by omega)) rfl (Ent.refl _)
theorem next_use (hol : own.length ≤ 10) (hp : -10000 ≤ p ∧ p ≤ 10000 ∧ -10000 ≤ bd ∧ bd ≤ 10000) (t : Take [OB x 178 [(st "codes", .ref lo), (st "is_folded", .bool f)], LI lo own, BUF b text] H R) (hk : 8 ≤ k)
    (q0 : nxP (fitsB text own f) own.length p bd none → Q .none vals (OB x 178 [(st "codes", .ref lo), (st "is_folded", .bool f)] :: LI lo own :: BUF b text :: R))
    (q1 : ∀ q s, nxP (fitsB text own f) own.length p bd (some (q, s)) → Q (.ref q) vals (TP q [.int s, .int (s + own.length)] :: OB x 178 [(st "codes", .ref lo), (st "is_folded", .bool f)] :: LI lo own :: BUF b text :: R)) : JC k c S vals H (.ref 175) [.ref x, .ref b, .int p, .int bd] Q :=
  Sp.use (next_sp hol hp) t hk fun o => match o with | none => q0 | some d => q1 d.1 d.2
end
theorem rm_some {g : Int → Bool} {k a b zv st : Int} (q : a ≤ st ∧ st + k ≤ zv ∧ g st = true ∧ ∀ i, a ≤ i → i < st → g i = false) : (∃ i, a ≤ i ∧ i + k ≤ zv ∧ g i = true ∧ (i < b ∨ i = a)) ↔ (st < b ∨ st = a) := by
  obtain ⟨q1, q2, q3, q4⟩ := q
  constructor
  · rintro ⟨i, a1, a2, a3, a4⟩
    have : ¬ i < st := fun c => by rw [q4 i a1 c] at a3; cases a3
    omega
  · exact fun h => ⟨st, q1, q2, q3, h⟩
def rmP (g : Int → Bool) (k a b zv : Int) (r : Bool) : Prop := r = true ↔ ∃ i, a ≤ i ∧ i + k ≤ zv ∧ g i = true ∧ (i < b ∨ i = a)
section
variable {b x lo : Addr} {text own : List Int} {s e : Int} {f : Bool}
theorem how_many_sp (hol : own.length ≤ 10) (how : 1 ≤ own.length) (htl : text.length ≤ 1000) (h1 : 1 ≤ s ∧ s ≤ (text.length : Int) + 1) (h2 : 1 ≤ e ∧ e ≤ (text.length : Int) + 1) : Sp (σ := Unit) (.ref 189) [.ref b, .ref x, .int s, .int e] [OB x 178 [(st "codes", .ref lo), (st "is_folded", .bool f)], LI lo own, BUF b text] 10 (fun _ => True) (fun _ => .int (cnt (fitsB text own f) own.length (max s e) (min s e))) (fun _ R => OB x 178 [(st "codes", .ref lo), (st "is_folded", .bool f)] :: LI lo own :: BUF b text :: R) := by
  refine' Sp.intro (kb := 8) (nm := [st "buffer", st "finder", st "start", st "end", st "low", st "high", st "many", st "found", st "at"]) ⟨?ho, ?hcd, ?hS, ?hco, ?hgen, ?hcell⟩ (fun vs => [st "buffer", st "finder", st "start", st "end"].zip vs) [some (.ref b), some (.ref x), some (.int s), some (.int e), none, none, none, none, none] (fun _ _ => rfl) ?hbind ?hloc ?hv ?jb
  case ho => intro w; show (_ : _) = _; unfold KF; k_is
  case hcd => intro w; show (_ : _) = _; unfold KF; k_is
  case hS => exact ⟨rfl, by decide +kernel, by decide +kernel⟩
  case hco => exact rfl
  case hgen => exact rfl
  case hcell => exact rfl
  case hbind => exact fun w s X => all4 fun a0 _ a1 _ a2 _ a3 _ => BindsTo.of_eq (by kernel_rfl)
  case hloc => exact all4 fun a0 _ a1 _ a2 _ a3 _ => rfl
  case hv => exact all4 fun a0 i0 a1 i1 a2 i2 a3 i3 => ⟨⟨a0, rfl, i0⟩, ⟨a1, rfl, i1⟩, ⟨a2, rfl, i2⟩, ⟨a3, rfl, i3⟩, trivial⟩
  intro c
  refine' J.asgT2 ?_
  refine' J.callG ⟨by kernel_rfl, by kernel_rfl⟩ g_reached kg_reached ?_
  refine' J.args ?_
  refine' J.name .hd ?_
  refine' J.args ?_
  refine' J.name (.tl (.tl .hd)) ?_
  refine' J.args1 ?_
  refine' J.name (.tl (.tl (.tl .hd))) ?_
  refine' Sp.use (reached_sp (by assumption) (by assumption)) (.cons (.tl (.tl .hd)) .nil) (Nat.le_of_ble_eq_true rfl) ?_
  intro q15 _
  refine' UnpT.mk2 .hd (.tl (.tl (.tl (.tl .hd)))) (.tl (.tl (.tl (.tl (.tl .hd))))) ?_
  refine' J.asg ?_
  refine' J.cint ?_
  refine' StoN.mk (.tl (.tl (.tl (.tl (.tl (.tl .hd)))))) ?_
  refine' J.asg ?_
  refine' J.meth ?_
  refine' J.name (.tl .hd) ?_
  refine' MetV.mk (a := OB _ 178 [(st "codes", .ref _), (st "is_folded", .bool _)]) (.tl .hd) (LOB.recv (by decide +kernel)) m178_next ?_
  refine' J.args ?_
  refine' J.name .hd ?_
  refine' J.args ?_
  refine' J.name (.tl (.tl (.tl (.tl .hd)))) ?_
  refine' J.args1 ?_
  refine' J.name (.tl (.tl (.tl (.tl (.tl .hd))))) ?_
  refine' Sp.use (next_sp hol (by omega)) (.cons (.tl .hd) (.cons (.tl .hd) (.cons .hd .nil))) (Nat.le_of_ble_eq_true rfl) ?_
  intro o ho
  refine' StoN.mk (.tl (.tl (.tl (.tl (.tl (.tl (.tl .hd))))))) ?_
  refine' J.whil (σ := Int × Option (Addr × Int)) (fun z => [some (.ref b), some (.ref x), some (.int s), some (.int e), some (.int (min s e)), some (.int (max s e)), some (.int z.1), some (FoV z.2), none]) (fun z => FoH own.length z.2 [OB x 178 [(st "codes", .ref lo), (st "is_folded", .bool f)], LI lo own, BUF b text]) (hmP (fitsB text own f) own.length (min s e) (max s e)) (hmM (max s e)) (0, o) (hm_first (by omega) ho) (Le.refl _) (Ent.refl _) ?_
  rintro ⟨mn, _ | ⟨q, t⟩⟩ hz
  · show JT _ _ _ [some (.ref b), some (.ref x), some (.int s), some (.int e), some (.int (min s e)), some (.int (max s e)), some (.int mn), some .none, none] [OB x 178 [(st "codes", .ref lo), (st "is_folded", .bool f)], LI lo own, BUF b text] _ _ _
    refine' JT.cmp ?_
    refine' J.name (.tl (.tl (.tl (.tl (.tl (.tl (.tl .hd))))))) ?_
    refine' J.cnone ?_
    with_reducible refine' CmpT.isnN ?_
    refine' J.ret ?_
    refine' J.name (.tl (.tl (.tl (.tl (.tl (.tl .hd)))))) ?_
    refine' EndQ.mk () trivial ?_ ?_
    refine' FlV.int ?_
    rotate_left
    with_reducible refine' Ent.sel .hd ?_
    with_reducible refine' Ent.sel .hd ?_
    with_reducible refine' Ent.sel .hd ?_
    exact Ent.nil
    exact hz
  · show JT _ _ _ [some (.ref b), some (.ref x), some (.int s), some (.int e), some (.int (min s e)), some (.int (max s e)), some (.int mn), some (.ref q), none] [TP q [.int t, .int (t + own.length)], OB x 178 [(st "codes", .ref lo), (st "is_folded", .bool f)], LI lo own, BUF b text] _ _ _
    obtain ⟨g1, g2, g3⟩ := id hz
    dsimp only at g1 g2 g3
    refine' JT.cmp ?_
    refine' J.name (.tl (.tl (.tl (.tl (.tl (.tl (.tl .hd))))))) ?_
    refine' J.cnone ?_
    with_reducible refine' CmpT.isnR ?_
    refine' J.asg ?_
    refine' J.bin ?_
    refine' J.name (.tl (.tl (.tl (.tl (.tl (.tl .hd)))))) ?_
    refine' J.cint ?_
    with_reducible refine' BinV.add ?_
    refine' StoN.mk (.tl (.tl (.tl (.tl (.tl (.tl .hd)))))) ?_
    refine' J.asg ?_
    refine' J.ifexp ?_
    refine' JT.cmp ?_
    refine' J.sub ?_
    refine' J.name (.tl (.tl (.tl (.tl (.tl (.tl (.tl .hd))))))) ?_
    refine' J.cint ?_
    refine' SubV.tp0 .hd ?_
    refine' J.sub ?_
    refine' J.name (.tl (.tl (.tl (.tl (.tl (.tl (.tl .hd))))))) ?_
    refine' J.cint ?_
    refine' SubV.tp1 .hd ?_
    with_reducible refine' CmpT.eq ?_ ?_
    intro h26
    exfalso; omega
    intro h26
    refine' J.sub ?_
    refine' J.name (.tl (.tl (.tl (.tl (.tl (.tl (.tl .hd))))))) ?_
    refine' J.cint ?_
    refine' SubV.tp1 .hd ?_
    refine' StoN.mk (.tl (.tl (.tl (.tl (.tl (.tl (.tl (.tl .hd)))))))) ?_
    refine' J.asg ?_
    refine' J.ifexp ?_
    refine' JT.cmp ?_
    refine' J.name (.tl (.tl (.tl (.tl (.tl (.tl (.tl (.tl .hd)))))))) ?_
    refine' J.name (.tl (.tl (.tl (.tl (.tl .hd))))) ?_
    with_reducible refine' CmpT.le ?_ ?_
    intro h27
    refine' J.meth ?_
    refine' J.name (.tl .hd) ?_
    refine' MetV.mk (a := OB _ 178 [(st "codes", .ref _), (st "is_folded", .bool _)]) (.tl .hd) (LOB.recv (by decide +kernel)) m178_next ?_
    refine' J.args ?_
    refine' J.name .hd ?_
    refine' J.args ?_
    refine' J.name (.tl (.tl (.tl (.tl (.tl (.tl (.tl (.tl .hd)))))))) ?_
    refine' J.args1 ?_
    refine' J.name (.tl (.tl (.tl (.tl (.tl .hd))))) ?_
    rotate_left
    intro h27
    exfalso; omega
    refine' Sp.use (next_sp hol (by omega)) (.cons (.tl .hd) (.cons (.tl .hd) (.cons (.tl .hd) .nil))) (Nat.le_of_ble_eq_true rfl) ?_
    intro o ho
    refine' StoN.mk (.tl (.tl (.tl (.tl (.tl (.tl (.tl .hd))))))) ?_
    refine' J.nil ?_
    have hx := hm_next (by omega) hz ho
    refine' WQ.nx (mn + 1, o) hx.1 hx.2 ?_ ?_
    · exact (.keep (.keep (.keep (.keep (.keep (.keep (.keep (.keep (.drop .nil)))))))))
    · refine' FoH.mono ?_
      with_reducible refine' Ent.sel .hd ?_
      with_reducible refine' Ent.sel .hd ?_
      with_reducible refine' Ent.sel .hd ?_
      exact Ent.nil
theorem row_matches_sp (hol : own.length ≤ 10) (htl : text.length ≤ 1000) (h1 : 1 ≤ s ∧ s ≤ (text.length : Int) + 1) (h2 : 1 ≤ e ∧ e ≤ (text.length : Int) + 1) : Sp (σ := Bool) (.ref 196) [.ref b, .ref x, .int s, .int e] [OB x 178 [(st "codes", .ref lo), (st "is_folded", .bool f)], LI lo own, BUF b text] 10 (rmP (fitsB text own f) own.length s e ((text.length : Int) + 1)) (fun r => .bool r) (fun _ R => OB x 178 [(st "codes", .ref lo), (st "is_folded", .bool f)] :: LI lo own :: BUF b text :: R) := by
  refine' Sp.intro (kb := 8) (nm := [st "buffer", st "finder", st "start", st "end", st "found"]) ⟨?ho, ?hcd, ?hS, ?hco, ?hgen, ?hcell⟩ (fun vs => [st "buffer", st "finder", st "start", st "end"].zip vs) [some (.ref b), some (.ref x), some (.int s), some (.int e), none] (fun _ _ => rfl) ?hbind ?hloc ?hv ?jb
  case ho => intro w; show (_ : _) = _; unfold KF; k_is
  case hcd => intro w; show (_ : _) = _; unfold KF; k_is
  case hS => exact ⟨rfl, by decide +kernel, by decide +kernel⟩
  case hco => exact rfl
  case hgen => exact rfl
  case hcell => exact rfl
  case hbind => exact fun w s X => all4 fun a0 _ a1 _ a2 _ a3 _ => BindsTo.of_eq (by kernel_rfl)
  case hloc => exact all4 fun a0 _ a1 _ a2 _ a3 _ => rfl
  case hv => exact all4 fun a0 i0 a1 i1 a2 i2 a3 i3 => ⟨⟨a0, rfl, i0⟩, ⟨a1, rfl, i1⟩, ⟨a2, rfl, i2⟩, ⟨a3, rfl, i3⟩, trivial⟩
  intro c
  refine' J.asg ?_
  refine' J.meth ?_
  refine' J.name (.tl .hd) ?_
  refine' MetV.mk (a := OB _ 178 [(st "codes", .ref _), (st "is_folded", .bool _)]) .hd (LOB.recv (by decide +kernel)) m178_next ?_
  refine' J.args ?_
  refine' J.name .hd ?_
  refine' J.args ?_
  refine' J.name (.tl (.tl .hd)) ?_
  refine' J.args1 ?_
  refine' J.attr ?_
  refine' J.name .hd ?_
  with_reducible refine' GC.zv (.tl (.tl .hd)) ?_
  refine' next_use (by assumption) (by omega) (.cons .hd (.cons .hd (.cons .hd .nil))) (Nat.le_of_ble_eq_true rfl) ?_ ?_
  intro h14
  refine' StoN.mk (.tl (.tl (.tl (.tl .hd)))) ?_
  refine' J.ret ?_
  refine' J.and2 ?_
  refine' J.cmp ?_
  refine' J.name (.tl (.tl (.tl (.tl .hd)))) ?_
  refine' J.cnone ?_
  with_reducible refine' CmpV.isnN ?_
  with_reducible refine' TruT.ff ?_
  rotate_left
  intro x14
  intro x15
  intro h16
  refine' StoN.mk (.tl (.tl (.tl (.tl .hd)))) ?_
  refine' J.ret ?_
  refine' J.and2 ?_
  refine' J.cmp ?_
  refine' J.name (.tl (.tl (.tl (.tl .hd)))) ?_
  refine' J.cnone ?_
  with_reducible refine' CmpV.isnR ?_
  with_reducible refine' TruT.tt ?_
  refine' J.and1 ?_
  refine' J.or2 ?_
  refine' J.cmp ?_
  refine' J.sub ?_
  refine' J.name (.tl (.tl (.tl (.tl .hd)))) ?_
  refine' J.cint ?_
  refine' SubV.tp0 .hd ?_
  refine' J.name (.tl (.tl (.tl .hd))) ?_
  with_reducible refine' CmpV.lt ?_
  with_reducible refine' TruT.dec ?_ ?_
  intro h17
  rotate_left
  intro h17
  refine' J.or1 ?_
  refine' J.cmp ?_
  refine' J.sub ?_
  refine' J.name (.tl (.tl (.tl (.tl .hd)))) ?_
  refine' J.cint ?_
  refine' SubV.tp0 .hd ?_
  refine' J.name (.tl (.tl .hd)) ?_
  with_reducible refine' CmpV.eq ?_
  rotate_left
  · refine' EndQ.mk false ⟨(fun h => nomatch h), fun ⟨i, a1, a2, a3, _⟩ => ?_⟩ rfl (Ent.refl _)
    rename nxP _ _ _ _ _ => q
    exact (q i a1 a2).symm.trans a3
  · rename nxP _ _ _ _ _ => q
    refine' EndQ.mk _ ?_ rfl ?_
    · unfold rmP
      rw [rm_some q, decide_eq_true_eq]
      exact ⟨.inl, fun h => h.elim id fun h => by omega⟩
    with_reducible refine' Ent.sel (.tl .hd) ?_
    with_reducible refine' Ent.sel (.tl .hd) ?_
    with_reducible refine' Ent.sel (.tl .hd) ?_
    exact Ent.nil
  · rename nxP _ _ _ _ _ => q
    refine' EndQ.mk _ ?_ rfl ?_
    · unfold rmP
      rw [rm_some q, decide_eq_true_eq]
      exact ⟨.inr, fun h => h.elim (fun h => absurd h (by assumption)) id⟩
    with_reducible refine' Ent.sel (.tl .hd) ?_
    with_reducible refine' Ent.sel (.tl .hd) ?_
    with_reducible refine' Ent.sel (.tl .hd) ?_
    exact Ent.nil
end
theorem Ent.li {l : Addr} {xs ys : List Int} {H H' R : List Asn} (s : Sel (LI l xs) H R) (e : xs = ys) (h : Ent R H') : Ent H (LI l ys :: H') := e ▸ Ent.sel s h
theorem dropR {L R : List Int} {i : Nat} (h : L.length ≤ i) : (L ++ R).drop i = R.drop (i - L.length) := by rw [List.drop_append, List.drop_eq_nil_of_le h, List.nil_append]
theorem ltk {cs : List Int} {a : Nat} (h : a ≤ cs.length) : (cs.take a).length = a := by rw [List.length_take, Nat.min_eq_left h]
theorem gc1 {cs : List Int} {a b s e : Nat} (hs : s ≤ e) (he : e ≤ a) (ha : a ≤ cs.length) : (cs.drop s).take (e - s) = ((cs.take a ++ cs.drop b).drop s).take (e - s) := by
  rw [List.drop_append_of_le_length (by rw [ltk ha]; exact Nat.le_trans hs he), List.take_append_of_le_length (by rw [List.length_drop, ltk ha]; exact Nat.sub_le_sub_right he s), List.drop_take, List.take_take, Nat.min_eq_left (Nat.sub_le_sub_right he s)]
theorem gc2 {cs : List Int} {a b s e : Nat} (ha : a ≤ s) (hl : a ≤ cs.length) : (cs.drop (b + (s - a))).take (e - s) = ((cs.take a ++ cs.drop b).drop s).take (e - s) := by
  rw [dropR (by rw [ltk hl]; exact ha), ltk hl, List.drop_drop]
theorem gc3 {cs : List Int} {a b s e : Nat} (hs : s ≤ a) (ha : a ≤ e) (hl : a ≤ cs.length) : (cs.drop s).take (a - s) ++ (cs.drop b).take (e - a) = ((cs.take a ++ cs.drop b).drop s).take (e - s) := by
  rw [List.drop_append_of_le_length (by rw [ltk hl]; exact hs), List.take_append, List.take_of_length_le (l := (cs.take a).drop s) (by rw [List.length_drop, ltk hl]; exact Nat.sub_le_sub_right ha s), List.drop_take, List.length_take, List.length_drop, Nat.min_eq_left (Nat.sub_le_sub_right hl s), Nat.sub_sub_sub_cancel_right hs]
theorem gcd {cs : List Int} {a b s e : Nat} (hs : s ≤ a) (ha : a ≤ e) (hl : a ≤ cs.length) : (cs.take a ++ cs.drop b).take s ++ (cs.take a ++ cs.drop b).drop e = cs.take s ++ cs.drop (b + (e - a)) := by
  rw [List.take_append_of_le_length (by rw [ltk hl]; exact hs), dropR (by rw [ltk hl]; exact ha), ltk hl, List.take_take, List.drop_drop, Nat.min_eq_left hs]
theorem tnA {p a b : Int} (ha : 0 ≤ a) (hp : a ≤ p) (hb : 0 ≤ b) : (p + (b - a)).toNat = b.toNat + (p.toNat - a.toNat) := by
  obtain ⟨a, rfl⟩ := Int.eq_ofNat_of_zero_le ha
  obtain ⟨b, rfl⟩ := Int.eq_ofNat_of_zero_le hb
  obtain ⟨d, rfl⟩ := Int.le.dest hp
  rw [Int.add_comm (a : Int) d, Int.add_assoc, Int.add_comm (a : Int) (b - a), Int.sub_add_cancel, ← Int.natCast_add, ← Int.natCast_add, Int.toNat_natCast, Int.toNat_natCast, Int.toNat_natCast, Int.toNat_natCast, Nat.add_sub_cancel, Nat.add_comm]
section
variable {g cl : Addr} {cs text : List Int} {gs ge p e : Int}
theorem gap_codes_sp (h : GOf cs gs ge text) (hp : 0 ≤ p ∧ p ≤ e ∧ e ≤ (text.length : Int)) : Sp (σ := Addr) (.ref 252) [.ref g, .int p, .int e] [OB g 304 (gapF cl gs ge), LI cl cs] 2 (fun _ => True) (fun q => .ref q) (fun q R => LI q ((text.drop p.toNat).take (e.toNat - p.toNat)) :: OB g 304 (gapF cl gs ge) :: LI cl cs :: R) := by
  have gl := h.len
  obtain ⟨g1, g2, g3, g4, g5⟩ := h
  obtain ⟨p1, p2, p3⟩ := hp
  have hl : gs.toNat ≤ cs.length := Int.toNat_le.mpr (Int.le_trans g2 g3)
  have hge : 0 ≤ ge := Int.le_trans g1 g2
  refine' Sp.intro (kb := 0) (nm := [st "self", st "start", st "end", st "shift"]) ⟨?ho, ?hcd, ?hS, ?hco, ?hgen, ?hcell⟩ (fun vs => [st "self", st "start", st "end"].zip vs) [some (.ref g), some (.int p), some (.int e), none] (fun _ _ => rfl) ?hbind ?hloc ?hv ?jb
  case ho => intro w; show (_ : _) = _; unfold KF; k_is
  case hcd => intro w; show (_ : _) = _; unfold KF; k_is
  case hS => exact ⟨rfl, by decide +kernel, by decide +kernel⟩
  case hco => exact rfl
  case hgen => exact rfl
  case hcell => exact rfl
  case hbind => exact fun w s X => all3 fun a0 _ a1 _ a2 _ => BindsTo.of_eq (by kernel_rfl)
  case hloc => exact all3 fun a0 _ a1 _ a2 _ => rfl
  case hv => exact all3 fun a0 i0 a1 i1 a2 i2 => ⟨⟨a0, rfl, i0⟩, ⟨a1, rfl, i1⟩, ⟨a2, rfl, i2⟩, trivial⟩
  intro c
  refine' J.asg ?_
  refine' J.bin ?_
  refine' J.attr ?_
  refine' J.name .hd ?_
  with_reducible refine' GG.gap_end .hd ?_
  refine' J.attr ?_
  refine' J.name .hd ?_
  with_reducible refine' GG.gap_start .hd ?_
  with_reducible refine' BinV.sub ?_
  refine' StoN.mk (.tl (.tl (.tl .hd))) ?_
  refine' J.if1 ?_
  refine' JT.cmp ?_
  refine' J.name (.tl (.tl .hd)) ?_
  refine' J.attr ?_
  refine' J.name .hd ?_
  with_reducible refine' GG.gap_start .hd ?_
  with_reducible refine' CmpT.le ?_ ?_
  intro h23
  refine' J.ret ?_
  refine' J.slice ?_
  refine' J.attr ?_
  refine' J.name .hd ?_
  with_reducible refine' GG.cells .hd ?_
  refine' JP.some ?_
  refine' J.name (.tl .hd) ?_
  refine' PInt.mk ?_
  refine' JP.some ?_
  refine' J.name (.tl (.tl .hd)) ?_
  refine' PInt.mk ?_
  refine' SliV.mk (.tl .hd) (by omega) (.run (by omega) (by omega)) ?_
  intro D24
  with_reducible refine' Seq.rt ?_
  rotate_left
  intro h23
  refine' J.if1 ?_
  refine' JT.cmp ?_
  refine' J.name (.tl .hd) ?_
  refine' J.attr ?_
  refine' J.name .hd ?_
  with_reducible refine' GG.gap_start .hd ?_
  with_reducible refine' CmpT.ge ?_ ?_
  intro h24
  refine' J.ret ?_
  refine' J.slice ?_
  refine' J.attr ?_
  refine' J.name .hd ?_
  with_reducible refine' GG.cells .hd ?_
  refine' JP.some ?_
  refine' J.bin ?_
  refine' J.name (.tl .hd) ?_
  refine' J.name (.tl (.tl (.tl .hd))) ?_
  with_reducible refine' BinV.add ?_
  refine' PInt.mk ?_
  refine' JP.some ?_
  refine' J.bin ?_
  refine' J.name (.tl (.tl .hd)) ?_
  refine' J.name (.tl (.tl (.tl .hd))) ?_
  with_reducible refine' BinV.add ?_
  refine' PInt.mk ?_
  refine' SliV.mk (.tl .hd) (by omega) (.run (by omega) (by omega)) ?_
  intro D25
  with_reducible refine' Seq.rt ?_
  rotate_left
  intro h24
  refine' J.ret ?_
  refine' J.bin ?_
  refine' J.slice ?_
  refine' J.attr ?_
  refine' J.name .hd ?_
  with_reducible refine' GG.cells .hd ?_
  refine' JP.some ?_
  refine' J.name (.tl .hd) ?_
  refine' PInt.mk ?_
  refine' JP.some ?_
  refine' J.attr ?_
  refine' J.name .hd ?_
  with_reducible refine' GG.gap_start .hd ?_
  refine' PInt.mk ?_
  refine' SliV.mk (.tl .hd) (by omega) (.run (by omega) (by omega)) ?_
  intro D25
  refine' J.slice ?_
  refine' J.attr ?_
  refine' J.name .hd ?_
  with_reducible refine' GG.cells (.tl .hd) ?_
  refine' JP.some ?_
  refine' J.attr ?_
  refine' J.name .hd ?_
  with_reducible refine' GG.gap_end (.tl .hd) ?_
  refine' PInt.mk ?_
  refine' JP.some ?_
  refine' J.bin ?_
  refine' J.name (.tl (.tl .hd)) ?_
  refine' J.name (.tl (.tl (.tl .hd))) ?_
  with_reducible refine' BinV.add ?_
  refine' PInt.mk ?_
  refine' SliV.mk (.tl (.tl .hd)) (by omega) (.run (by omega) (by omega)) ?_
  intro D26
  refine' BinV.addL (.tl .hd) .hd (Nat.le_trans (Nat.add_le_add slen slen) (by omega)) ?_
  intro D27
  rotate_left
  · refine' EndQ.mk _ trivial rfl (Ent.li .hd ?_ (Ent.refl _))
    rw [g4]
    exact gc1 (Int.toNat_le_toNat p2) (Int.toNat_le_toNat (by assumption)) hl
  · rename _ ≤ p => hgp
    refine' EndQ.mk _ trivial rfl (Ent.li .hd ?_ (Ent.refl _))
    rw [g4, ← gc2 (Int.toNat_le_toNat hgp) hl, tnA g1 (Int.le_trans hgp p2) hge, tnA g1 hgp hge, Nat.add_sub_add_left, Nat.sub_sub_sub_cancel_right (Int.toNat_le_toNat hgp)]
  · rename ¬ _ ≤ p => hgp
    rename ¬ e ≤ _ => hge'
    have hge2 := Int.le_of_lt (Int.not_le.mp hge')
    refine' EndQ.mk _ trivial rfl (Ent.li .hd ?_ ?_)
    · rw [g4, ← gc3 (Int.toNat_le_toNat (Int.le_of_lt (Int.not_le.mp hgp))) (Int.toNat_le_toNat hge2) hl, tnA g1 hge2 hge, Nat.add_sub_cancel_left]
    · with_reducible refine' Ent.sel (.tl (.tl .hd)) ?_
      with_reducible refine' Ent.sel (.tl (.tl .hd)) ?_
      exact Ent.nil
end
theorem mvLn {cs ms : List Int} {a b p : Nat} (h1 : p ≤ a) (h2 : a ≤ b) (h3 : b ≤ cs.length) (hm : (cs.drop p).take (a - p) = ms) : ms.length = a - p ∧ (cs.take (b - ms.length) ++ ms ++ cs.drop b).length = cs.length ∧ cs.take a ++ cs.drop b = (cs.take (b - ms.length) ++ ms ++ cs.drop b).take p ++ (cs.take (b - ms.length) ++ ms ++ cs.drop b).drop (b - ms.length) := by
  have hl : ms.length = a - p := by rw [← hm, List.length_take, List.length_drop, Nat.min_eq_left (Nat.sub_le_sub_right (Nat.le_trans h2 h3) p)]
  have hb : ms.length ≤ b := hl ▸ Nat.le_trans (Nat.sub_le _ _) h2
  have e1 : (cs.take (b - ms.length)).length = b - ms.length := ltk (Nat.le_trans (Nat.sub_le _ _) h3)
  have hp : p ≤ b - ms.length := by rw [hl]; omega
  refine ⟨hl, ?_, ?_⟩
  · rw [List.length_append, List.length_append, e1, List.length_drop, Nat.sub_add_cancel hb, Nat.add_sub_cancel' h3]
  · rw [List.append_assoc, List.drop_left' e1, List.take_append_of_le_length (by rw [e1]; exact hp), List.take_take, Nat.min_eq_left hp, ← List.append_assoc]
    congr 1
    rw [← hm]
    have := List.take_append_drop p (cs.take a)
    rw [List.take_take, Nat.min_eq_left h1, List.drop_take] at this
    exact this.symm
theorem mvRn {cs ms : List Int} {a b p : Nat} (h1 : a ≤ p) (h2 : a ≤ b) (h4 : b + (p - a) ≤ cs.length) (hm : (cs.drop b).take (p - a) = ms) : ms.length = p - a ∧ (cs.take a ++ ms ++ cs.drop (a + ms.length)).length = cs.length ∧ cs.take a ++ cs.drop b = (cs.take a ++ ms ++ cs.drop (a + ms.length)).take p ++ (cs.take a ++ ms ++ cs.drop (a + ms.length)).drop (b + ms.length) := by
  have hl : ms.length = p - a := by rw [← hm, List.length_take, List.length_drop, Nat.min_eq_left (by omega)]
  have e0 : (cs.take a).length = a := ltk (by omega)
  have e1 : (cs.take a ++ ms).length = p := by rw [List.length_append, e0, hl, Nat.add_sub_cancel' h1]
  have e3 : a + ms.length = p := by rw [hl, Nat.add_sub_cancel' h1]
  refine ⟨hl, ?_, ?_⟩
  · rw [List.length_append, e1, List.length_drop, e3]; omega
  · rw [List.take_left' e1, dropR (by rw [e1]; omega), List.drop_drop, List.append_assoc]
    congr 1
    rw [e1, e3, show p + (b + ms.length - p) = b + ms.length by omega]
    have e2 : ms = (cs.drop b).take ms.length := by rw [hl, hm]
    have := List.take_append_drop ms.length (cs.drop b)
    rw [← e2, List.drop_drop] at this
    exact this.symm
theorem mvL {cs text ms : List Int} {gs ge p : Int} (h : GOf cs gs ge text) (h0 : 0 ≤ p) (h1 : p < gs) (hm : (cs.drop p.toNat).take (gs.toNat - p.toNat) = ms) : (ms.length : Int) = gs - p ∧ GOf (cs.take (ge - (ms.length : Int)).toNat ++ ms ++ cs.drop ge.toNat) p (ge - (ms.length : Int)) text ∧ (cs.take (ge - (ms.length : Int)).toNat ++ ms ++ cs.drop ge.toNat).length = cs.length := by
  obtain ⟨g1, g2, g3, g4, g5⟩ := h
  obtain ⟨a, rfl⟩ := Int.eq_ofNat_of_zero_le g1
  obtain ⟨b, rfl⟩ := Int.eq_ofNat_of_zero_le (Int.le_trans g1 g2)
  obtain ⟨p, rfl⟩ := Int.eq_ofNat_of_zero_le h0
  simp only [Int.toNat_natCast, Int.toNat_sub] at *
  obtain ⟨z1, z2, z3⟩ := mvLn (Int.ofNat_le.mp (Int.le_of_lt h1)) (Int.ofNat_le.mp g2) (Int.ofNat_le.mp g3) hm
  have hl : (ms.length : Int) = (a : Int) - p := by rw [z1]; exact Int.natCast_sub (Int.ofNat_le.mp (Int.le_of_lt h1))
  exact ⟨hl, ⟨h0, by omega, by omega, by rw [Int.toNat_natCast, Int.toNat_sub]; exact g4.trans z3, z2 ▸ g5⟩, z2⟩
theorem mvR {cs text ms : List Int} {gs ge p : Int} (h : GOf cs gs ge text) (h1 : gs ≤ p) (h2 : p ≤ (text.length : Int)) (hm : (cs.drop ge.toNat).take ((ge + p - gs).toNat - ge.toNat) = ms) : (ms.length : Int) = p - gs ∧ GOf (cs.take gs.toNat ++ ms ++ cs.drop (gs + (ms.length : Int)).toNat) p (ge + (ms.length : Int)) text ∧ (cs.take gs.toNat ++ ms ++ cs.drop (gs + (ms.length : Int)).toNat).length = cs.length := by
  have gl := h.len
  obtain ⟨g1, g2, g3, g4, g5⟩ := h
  have hb := Int.le_trans g1 g2
  rw [Int.add_comm ge p, Int.add_sub_assoc, tnA g1 h1 hb, Nat.add_sub_cancel_left] at hm
  obtain ⟨a, rfl⟩ := Int.eq_ofNat_of_zero_le g1
  obtain ⟨b, rfl⟩ := Int.eq_ofNat_of_zero_le hb
  obtain ⟨p, rfl⟩ := Int.eq_ofNat_of_zero_le (Int.le_trans g1 h1)
  simp only [Int.toNat_natCast] at *
  have hap : a ≤ p := Int.ofNat_le.mp h1
  have h4 : b + (p - a) ≤ cs.length := by omega
  obtain ⟨z1, z2, z3⟩ := mvRn hap (Int.ofNat_le.mp g2) h4 hm
  have hl : (ms.length : Int) = (p : Int) - a := by rw [z1]; exact Int.natCast_sub hap
  rw [← Int.natCast_add, ← Int.natCast_add, Int.toNat_natCast]
  exact ⟨hl, ⟨Int.natCast_nonneg _, by omega, by rw [z2]; omega, by rw [Int.toNat_natCast, Int.toNat_natCast]; exact g4.trans z3, z2 ▸ g5⟩, z2⟩
theorem gdE {cs text : List Int} {gs ge p e : Int} (h : GOf cs gs ge text) (h0 : 0 ≤ p) (h1 : p ≤ gs) (h2 : gs ≤ e) (h3 : e ≤ (text.length : Int)) : GOf cs p (ge + e - gs) (text.take p.toNat ++ text.drop e.toNat) := by
  have gl := h.len
  obtain ⟨g1, g2, g3, g4, g5⟩ := h
  refine ⟨h0, by omega, by omega, ?_, g5⟩
  rw [g4, gcd (Int.toNat_le_toNat h1) (Int.toNat_le_toNat h2) (Int.toNat_le.mpr (Int.le_trans g2 g3)), Int.add_comm ge e, Int.add_sub_assoc, tnA g1 h2 (Int.le_trans g1 g2)]
section
variable {g cl : Addr} {cs text : List Int} {gs ge p e : Int}
theorem move_gap_sp (h : GOf cs gs ge text) (hp : 0 ≤ p ∧ p ≤ (text.length : Int)) : Sp (σ := List Int × Int) (.ref 259) [.ref g, .int p] [OB g 304 (gapF cl gs ge), LI cl cs] 2 (fun z => GOf z.1 p z.2 text ∧ z.1.length = cs.length) (fun _ => .none) (fun z R => OB g 304 (gapF cl p z.2) :: LI cl z.1 :: R) := by
  have gl := h.len
  obtain ⟨g1, g2, g3, -, g5⟩ := id h
  obtain ⟨p1, p2⟩ := hp
  refine' Sp.intro (kb := 0) (nm := [st "self", st "at", st "moved"]) ⟨?ho, ?hcd, ?hS, ?hco, ?hgen, ?hcell⟩ (fun vs => [st "self", st "at"].zip vs) [some (.ref g), some (.int p), none] (fun _ _ => rfl) ?hbind ?hloc ?hv ?jb
  case ho => intro w; show (_ : _) = _; unfold KF; k_is
  case hcd => intro w; show (_ : _) = _; unfold KF; k_is
  case hS => exact ⟨rfl, by decide +kernel, by decide +kernel⟩
  case hco => exact rfl
  case hgen => exact rfl
  case hcell => exact rfl
  case hbind => exact fun w s X => all2 fun a0 _ a1 _ => BindsTo.of_eq (by kernel_rfl)
  case hloc => exact all2 fun a0 _ a1 _ => rfl
  case hv => exact all2 fun a0 i0 a1 i1 => ⟨⟨a0, rfl, i0⟩, ⟨a1, rfl, i1⟩, trivial⟩
  intro c
  refine' J.if_ ?_
  refine' JT.cmp ?_
  refine' J.name (.tl .hd) ?_
  refine' J.attr ?_
  refine' J.name .hd ?_
  with_reducible refine' GG.gap_start .hd ?_
  with_reducible refine' CmpT.lt ?_ ?_
  intro h19
  refine' J.asg ?_
  refine' J.slice ?_
  refine' J.attr ?_
  refine' J.name .hd ?_
  with_reducible refine' GG.cells .hd ?_
  refine' JP.some ?_
  refine' J.name (.tl .hd) ?_
  refine' PInt.mk ?_
  refine' JP.some ?_
  refine' J.attr ?_
  refine' J.name .hd ?_
  with_reducible refine' GG.gap_start .hd ?_
  refine' PInt.mk ?_
  refine' SliV.mk (.tl .hd) (by omega) (.run (by omega) (by omega)) ?_
  intro D20
  rotate_left
  intro h19
  refine' J.asg ?_
  refine' J.slice ?_
  refine' J.attr ?_
  refine' J.name .hd ?_
  with_reducible refine' GG.cells .hd ?_
  refine' JP.some ?_
  refine' J.attr ?_
  refine' J.name .hd ?_
  with_reducible refine' GG.gap_end .hd ?_
  refine' PInt.mk ?_
  refine' JP.some ?_
  refine' J.bin ?_
  refine' J.bin ?_
  refine' J.attr ?_
  refine' J.name .hd ?_
  with_reducible refine' GG.gap_end .hd ?_
  refine' J.name (.tl .hd) ?_
  with_reducible refine' BinV.add ?_
  refine' J.attr ?_
  refine' J.name .hd ?_
  with_reducible refine' GG.gap_start .hd ?_
  with_reducible refine' BinV.sub ?_
  refine' PInt.mk ?_
  refine' SliV.mk (.tl .hd) (by omega) (.run (by omega) (by omega)) ?_
  intro D20
  rotate_left
  · generalize hm : List.take _ (List.drop _ cs) = ms
    obtain ⟨z1, z2⟩ := mvL h p1 (by assumption) hm
    refine' StoN.mk (.tl (.tl .hd)) ?_
    refine' J.asgS ?_
    refine' J.name (.tl (.tl .hd)) ?_
    refine' J.attr ?_
    refine' J.name .hd ?_
    with_reducible refine' GG.cells (.tl .hd) ?_
    refine' JP.some ?_
    refine' J.bin ?_
    refine' J.attr ?_
    refine' J.name .hd ?_
    with_reducible refine' GG.gap_end (.tl .hd) ?_
    refine' J.callB (id := "len") ⟨by kernel_rfl, by kernel_rfl⟩ blt_len ?_
    refine' J.args1 ?_
    refine' J.name (.tl (.tl .hd)) ?_
    refine' JC.len .hd (by omega) ?_
    with_reducible refine' BinV.sub ?_
    refine' PInt.mk ?_
    refine' JP.some ?_
    refine' J.attr ?_
    refine' J.name .hd ?_
    with_reducible refine' GG.gap_end (.tl .hd) ?_
    refine' PInt.mk ?_
    refine' SetS.mk (.cons (.tl (.tl .hd)) (.cons .hd .nil)) ⟨by omega, by omega, by omega, by omega⟩ ?_
    refine' J.asgA ?_
    refine' J.bin ?_
    refine' J.attr ?_
    refine' J.name .hd ?_
    with_reducible refine' GG.gap_end (.tl (.tl .hd)) ?_
    refine' J.callB (id := "len") ⟨by kernel_rfl, by kernel_rfl⟩ blt_len ?_
    refine' J.args1 ?_
    refine' J.name (.tl (.tl .hd)) ?_
    refine' JC.len (.tl .hd) (by omega) ?_
    with_reducible refine' BinV.sub ?_
    refine' J.name .hd ?_
    with_reducible refine' SG.gap_end (.tl (.tl .hd)) ?_
    refine' J.nil ?_
    with_reducible refine' Seq.nx ?_
    refine' J.asgA ?_
    refine' J.name (.tl .hd) ?_
    refine' J.name .hd ?_
    with_reducible refine' SG.gap_start (.tl (.tl .hd)) ?_
    refine' J.nil ?_
    refine' EndQ.mk (_, _) z2 rfl ?_
    with_reducible refine' Ent.sel (.tl (.tl .hd)) ?_
    with_reducible refine' Ent.sel .hd ?_
    exact Ent.nil
  · generalize hm : List.take _ (List.drop _ cs) = ms
    obtain ⟨z1, z2⟩ := mvR h (by omega) p2 hm
    refine' StoN.mk (.tl (.tl .hd)) ?_
    refine' J.asgS ?_
    refine' J.name (.tl (.tl .hd)) ?_
    refine' J.attr ?_
    refine' J.name .hd ?_
    with_reducible refine' GG.cells (.tl .hd) ?_
    refine' JP.some ?_
    refine' J.attr ?_
    refine' J.name .hd ?_
    with_reducible refine' GG.gap_start (.tl .hd) ?_
    refine' PInt.mk ?_
    refine' JP.some ?_
    refine' J.bin ?_
    refine' J.attr ?_
    refine' J.name .hd ?_
    with_reducible refine' GG.gap_start (.tl .hd) ?_
    refine' J.callB (id := "len") ⟨by kernel_rfl, by kernel_rfl⟩ blt_len ?_
    refine' J.args1 ?_
    refine' J.name (.tl (.tl .hd)) ?_
    refine' JC.len .hd (by omega) ?_
    with_reducible refine' BinV.add ?_
    refine' PInt.mk ?_
    refine' SetS.mk (.cons (.tl (.tl .hd)) (.cons .hd .nil)) ⟨by omega, by omega, by omega, by omega⟩ ?_
    refine' J.asgA ?_
    refine' J.bin ?_
    refine' J.attr ?_
    refine' J.name .hd ?_
    with_reducible refine' GG.gap_end (.tl (.tl .hd)) ?_
    refine' J.callB (id := "len") ⟨by kernel_rfl, by kernel_rfl⟩ blt_len ?_
    refine' J.args1 ?_
    refine' J.name (.tl (.tl .hd)) ?_
    refine' JC.len (.tl .hd) (by omega) ?_
    with_reducible refine' BinV.add ?_
    refine' J.name .hd ?_
    with_reducible refine' SG.gap_end (.tl (.tl .hd)) ?_
    refine' J.nil ?_
    with_reducible refine' Seq.nx ?_
    refine' J.asgA ?_
    refine' J.name (.tl .hd) ?_
    refine' J.name .hd ?_
    with_reducible refine' SG.gap_start (.tl (.tl .hd)) ?_
    refine' J.nil ?_
    refine' EndQ.mk (_, _) z2 rfl ?_
    with_reducible refine' Ent.sel (.tl (.tl .hd)) ?_
    with_reducible refine' Ent.sel .hd ?_
    exact Ent.nil
theorem gap_delete_sp (h : GOf cs gs ge text) (hp : 0 ≤ p ∧ p ≤ e ∧ e ≤ (text.length : Int)) : Sp (σ := Addr × List Int × Int) (.ref 280) [.ref g, .int p, .int e] [OB g 304 (gapF cl gs ge), LI cl cs] 4 (fun z => GOf z.2.1 p z.2.2 (text.take p.toNat ++ text.drop e.toNat)) (fun z => .ref z.1) (fun z R => OB g 304 (gapF cl p z.2.2) :: LI cl z.2.1 :: R) := by
  obtain ⟨p1, p2, p3⟩ := hp
  refine' Sp.intro (kb := 2) (nm := [st "self", st "start", st "end", st "gone"]) ⟨?ho, ?hcd, ?hS, ?hco, ?hgen, ?hcell⟩ (fun vs => [st "self", st "start", st "end"].zip vs) [some (.ref g), some (.int p), some (.int e), none] (fun _ _ => rfl) ?hbind ?hloc ?hv ?jb
  case ho => intro w; show (_ : _) = _; unfold KF; k_is
  case hcd => intro w; show (_ : _) = _; unfold KF; k_is
  case hS => exact ⟨rfl, by decide +kernel, by decide +kernel⟩
  case hco => exact rfl
  case hgen => exact rfl
  case hcell => exact rfl
  case hbind => exact fun w s X => all3 fun a0 _ a1 _ a2 _ => BindsTo.of_eq (by kernel_rfl)
  case hloc => exact all3 fun a0 _ a1 _ a2 _ => rfl
  case hv => exact all3 fun a0 i0 a1 i1 a2 i2 => ⟨⟨a0, rfl, i0⟩, ⟨a1, rfl, i1⟩, ⟨a2, rfl, i2⟩, trivial⟩
  intro c
  refine' J.asg ?_
  refine' J.meth ?_
  refine' J.name .hd ?_
  refine' MetV.mk (a := OB _ 304 (gapF _ _ _)) .hd (GAP.recv (by decide +kernel)) m304_codes ?_
  refine' J.args ?_
  refine' J.name (.tl .hd) ?_
  refine' J.args1 ?_
  refine' J.name (.tl (.tl .hd)) ?_
  refine' Sp.use (gap_codes_sp (by assumption) (by omega)) (.cons .hd (.cons .hd .nil)) (Nat.le_of_ble_eq_true rfl) ?_
  intro q14 _
  refine' StoN.mk (.tl (.tl (.tl .hd))) ?_
  refine' J.if1 ?_
  refine' JT.cmp ?_
  refine' J.name (.tl (.tl .hd)) ?_
  refine' J.attr ?_
  refine' J.name .hd ?_
  with_reducible refine' GG.gap_start (.tl .hd) ?_
  with_reducible refine' CmpT.lt ?_ ?_
  intro h16
  refine' J.expr ?_
  refine' J.meth ?_
  refine' J.name .hd ?_
  refine' MetV.mk (a := OB _ 304 (gapF _ _ _)) (.tl .hd) (GAP.recv (by decide +kernel)) m304_move_gap ?_
  refine' J.args1 ?_
  refine' J.name (.tl (.tl .hd)) ?_
  refine' Sp.use (move_gap_sp (by assumption) (by omega)) (.cons (.tl .hd) (.cons (.tl .hd) .nil)) (Nat.le_of_ble_eq_true rfl) ?_
  intro ⟨z17, g17⟩ ⟨h17, l17⟩; dsimp only at h17 l17
  refine' J.nil ?_
  with_reducible refine' Seq.nx ?_
  refine' J.if1 ?_
  refine' JT.cmp ?_
  refine' J.name (.tl .hd) ?_
  refine' J.attr ?_
  refine' J.name .hd ?_
  with_reducible refine' GG.gap_start .hd ?_
  with_reducible refine' CmpT.gt ?_ ?_
  intro h23
  exfalso; omega
  intro h23
  refine' J.asgA ?_
  refine' J.bin ?_
  refine' J.bin ?_
  refine' J.attr ?_
  refine' J.name .hd ?_
  with_reducible refine' GG.gap_end .hd ?_
  refine' J.name (.tl (.tl .hd)) ?_
  with_reducible refine' BinV.add ?_
  refine' J.attr ?_
  refine' J.name .hd ?_
  with_reducible refine' GG.gap_start .hd ?_
  with_reducible refine' BinV.sub ?_
  refine' J.name .hd ?_
  with_reducible refine' SG.gap_end .hd ?_
  refine' J.asgA ?_
  refine' J.name (.tl .hd) ?_
  refine' J.name .hd ?_
  with_reducible refine' SG.gap_start .hd ?_
  refine' J.ret ?_
  refine' J.name (.tl (.tl (.tl .hd))) ?_
  rotate_left
  intro h16
  refine' J.if1 ?_
  refine' JT.cmp ?_
  refine' J.name (.tl .hd) ?_
  refine' J.attr ?_
  refine' J.name .hd ?_
  with_reducible refine' GG.gap_start (.tl .hd) ?_
  with_reducible refine' CmpT.gt ?_ ?_
  intro h17
  refine' J.expr ?_
  refine' J.meth ?_
  refine' J.name .hd ?_
  refine' MetV.mk (a := OB _ 304 (gapF _ _ _)) (.tl .hd) (GAP.recv (by decide +kernel)) m304_move_gap ?_
  refine' J.args1 ?_
  refine' J.name (.tl .hd) ?_
  refine' Sp.use (move_gap_sp (by assumption) (by omega)) (.cons (.tl .hd) (.cons (.tl .hd) .nil)) (Nat.le_of_ble_eq_true rfl) ?_
  intro ⟨z18, g18⟩ ⟨h18, l18⟩; dsimp only at h18 l18
  refine' J.nil ?_
  with_reducible refine' Seq.nx ?_
  refine' J.asgA ?_
  refine' J.bin ?_
  refine' J.bin ?_
  refine' J.attr ?_
  refine' J.name .hd ?_
  with_reducible refine' GG.gap_end .hd ?_
  refine' J.name (.tl (.tl .hd)) ?_
  with_reducible refine' BinV.add ?_
  refine' J.attr ?_
  refine' J.name .hd ?_
  with_reducible refine' GG.gap_start .hd ?_
  with_reducible refine' BinV.sub ?_
  refine' J.name .hd ?_
  with_reducible refine' SG.gap_end .hd ?_
  refine' J.asgA ?_
  refine' J.name (.tl .hd) ?_
  refine' J.name .hd ?_
  with_reducible refine' SG.gap_start .hd ?_
  refine' J.ret ?_
  refine' J.name (.tl (.tl (.tl .hd))) ?_
  rotate_left
  intro h17
  refine' J.asgA ?_
  refine' J.bin ?_
  refine' J.bin ?_
  refine' J.attr ?_
  refine' J.name .hd ?_
  with_reducible refine' GG.gap_end (.tl .hd) ?_
  refine' J.name (.tl (.tl .hd)) ?_
  with_reducible refine' BinV.add ?_
  refine' J.attr ?_
  refine' J.name .hd ?_
  with_reducible refine' GG.gap_start (.tl .hd) ?_
  with_reducible refine' BinV.sub ?_
  refine' J.name .hd ?_
  with_reducible refine' SG.gap_end (.tl .hd) ?_
  refine' J.asgA ?_
  refine' J.name (.tl .hd) ?_
  refine' J.name .hd ?_
  with_reducible refine' SG.gap_start (.tl .hd) ?_
  refine' J.ret ?_
  refine' J.name (.tl (.tl (.tl .hd))) ?_
  rotate_left
  · rename GOf _ _ _ _ => hz
    refine' EndQ.mk (_, _, _) (gdE hz p1 p2 (Int.le_refl _) p3) rfl ?_
    with_reducible refine' Ent.sel .hd ?_
    with_reducible refine' Ent.sel .hd ?_
    exact Ent.nil
  · rename GOf _ _ _ _ => hz
    refine' EndQ.mk (_, _, _) (gdE hz p1 (Int.le_refl _) p2 p3) rfl ?_
    with_reducible refine' Ent.sel .hd ?_
    with_reducible refine' Ent.sel .hd ?_
    exact Ent.nil
  · refine' EndQ.mk (_, _, _) (gdE h p1 (by omega) (by omega) p3) rfl ?_
    with_reducible refine' Ent.sel (.tl .hd) ?_
    with_reducible refine' Ent.sel (.tl .hd) ?_
    exact Ent.nil
end
section
variable {b mr rw : Addr} {text : List Int} {p e : Int}
theorem need_writable_sp : Sp (σ := Unit) (.ref 62) [.ref b] [BUF b text] 2 (fun _ => True) (fun _ => .none) (fun _ R => BUF b text :: R) := by
  refine' Sp.intro (kb := 0) (nm := [st "buffer"]) ⟨?ho, ?hcd, ?hS, ?hco, ?hgen, ?hcell⟩ (fun vs => [st "buffer"].zip vs) [some (.ref b)] (fun _ _ => rfl) ?hbind ?hloc ?hv ?jb
  case ho => intro w; show (_ : _) = _; unfold KF; k_is
  case hcd => intro w; show (_ : _) = _; unfold KF; k_is
  case hS => exact ⟨rfl, by decide +kernel, by decide +kernel⟩
  case hco => exact rfl
  case hgen => exact rfl
  case hcell => exact rfl
  case hbind => exact fun w s X => all1 fun a0 _ => BindsTo.of_eq (by kernel_rfl)
  case hloc => exact all1 fun a0 _ => rfl
  case hv => exact all1 fun a0 i0 => ⟨⟨a0, rfl, i0⟩, trivial⟩
  intro c
  refine' J.iflast ?_
  refine' JT.plain ?_
  refine' J.attr ?_
  refine' J.name .hd ?_
  with_reducible refine' GC.is_read_only .hd ?_
  with_reducible refine' TruT.ff ?_
  refine' J.nil ?_
  exact EndQ.mk () trivial rfl (Ent.refl _)
theorem tell_ahead_sp : Sp (σ := Unit) (.ref 76) [.ref b, .int p, .int e] [BUF b text] 4 (fun _ => True) (fun _ => .none) (fun _ R => BUF b text :: R) := by
  refine' Sp.intro (kb := 2) (nm := [st "buffer", st "start", st "end", st "listener"]) ⟨?ho, ?hcd, ?hS, ?hco, ?hgen, ?hcell⟩ (fun vs => [st "buffer", st "start", st "end"].zip vs) [some (.ref b), some (.int p), some (.int e), none] (fun _ _ => rfl) ?hbind ?hloc ?hv ?jb
  case ho => intro w; show (_ : _) = _; unfold KF; k_is
  case hcd => intro w; show (_ : _) = _; unfold KF; k_is
  case hS => exact ⟨rfl, by decide +kernel, by decide +kernel⟩
  case hco => exact rfl
  case hgen => exact rfl
  case hcell => exact rfl
  case hbind => exact fun w s X => all3 fun a0 _ a1 _ a2 _ => BindsTo.of_eq (by kernel_rfl)
  case hloc => exact all3 fun a0 _ a1 _ a2 _ => rfl
  case hv => exact all3 fun a0 i0 a1 i1 a2 i2 => ⟨⟨a0, rfl, i0⟩, ⟨a1, rfl, i1⟩, ⟨a2, rfl, i2⟩, trivial⟩
  intro c
  refine' J.forE (.tail _ (.tail _ (.tail _ (.head _)))) ?_
  refine' J.callT (T := "list") ⟨by kernel_rfl, by kernel_rfl⟩ blt_list ?_
  refine' J.args1 ?_
  refine' J.attr ?_
  refine' J.name .hd ?_
  refine' BUF.unfG .hd ?_; intro g6 cl6 mr6 rw6 ls6 cs6 gs6 ge6 pt6 ti6 ci6 hb6
  with_reducible refine' GB.listeners .hd ?_
  refine' JC.listI (.tl (.tl (.tl (.tl (.tl .hd))))) (by first | exact Nat.zero_le _ | omega) ?_
  intro D18
  with_reducible refine' EmpV.mk .hd ?_
  refine' J.nil ?_
  refine' EndQ.mk () trivial rfl ?_
  refine' BUF.ent (.cons (.tl .hd) (.cons (.tl .hd) (.cons (.tl .hd) (.cons (.tl .hd) (.cons (.tl .hd) (.cons (.tl .hd) .nil)))))) (by assumption) rfl ?_
  exact Ent.nil
theorem touch_sp : Sp (σ := Unit) (.ref 512) [.ref b, .bool true] [BUF b text] 2 (fun _ => True) (fun _ => .none) (fun _ R => BUF b text :: R) := by
  refine' Sp.intro (kb := 0) (nm := [st "self", st "are_codes"]) ⟨?ho, ?hcd, ?hS, ?hco, ?hgen, ?hcell⟩ (fun vs => [st "self", st "are_codes"].zip vs) [some (.ref b), some (.bool true)] (fun _ _ => rfl) ?hbind ?hloc ?hv ?jb
  case ho => intro w; show (_ : _) = _; unfold KF; k_is
  case hcd => intro w; show (_ : _) = _; unfold KF; k_is
  case hS => exact ⟨rfl, by decide +kernel, by decide +kernel⟩
  case hco => exact rfl
  case hgen => exact rfl
  case hcell => exact rfl
  case hbind => exact fun w s X => all2 fun a0 _ a1 _ => BindsTo.of_eq (by kernel_rfl)
  case hloc => exact all2 fun a0 _ a1 _ => rfl
  case hv => exact all2 fun a0 i0 a1 i1 => ⟨⟨a0, rfl, i0⟩, ⟨a1, rfl, i1⟩, trivial⟩
  intro c
  refine' BUF.unf .hd ?_
  intro g cl mr rw ls cs gs ge pt ti ci h
  refine' J.asgA ?_
  refine' J.bin ?_
  refine' J.attr ?_
  refine' J.name .hd ?_
  with_reducible refine' GB.ticks .hd ?_
  refine' J.cint ?_
  with_reducible refine' BinV.add ?_
  refine' J.name .hd ?_
  with_reducible refine' SB.ticks .hd ?_
  refine' J.iflast ?_
  refine' JT.plain ?_
  refine' J.name (.tl .hd) ?_
  with_reducible refine' TruT.tt ?_
  refine' J.asgA ?_
  refine' J.attr ?_
  refine' J.name .hd ?_
  with_reducible refine' GB.ticks .hd ?_
  refine' J.name .hd ?_
  with_reducible refine' SB.codes_ticks .hd ?_
  refine' J.nil ?_
  refine' EndQ.mk () trivial rfl ?_
  refine' BUF.ent (.cons .hd (.cons .hd (.cons .hd (.cons .hd (.cons .hd (.cons .hd .nil)))))) (by assumption) rfl ?_
  exact Ent.nil
theorem tell_behind_sp {i : Int} : Sp (σ := Unit) (.ref 83) [.ref b, .int p, .int e, .int i] [BUF b text] 4 (fun _ => True) (fun _ => .none) (fun _ R => BUF b text :: R) := by
  refine' Sp.intro (kb := 2) (nm := [st "buffer", st "start", st "end", st "old_length", st "listener"]) ⟨?ho, ?hcd, ?hS, ?hco, ?hgen, ?hcell⟩ (fun vs => [st "buffer", st "start", st "end", st "old_length"].zip vs) [some (.ref b), some (.int p), some (.int e), some (.int i), none] (fun _ _ => rfl) ?hbind ?hloc ?hv ?jb
  case ho => intro w; show (_ : _) = _; unfold KF; k_is
  case hcd => intro w; show (_ : _) = _; unfold KF; k_is
  case hS => exact ⟨rfl, by decide +kernel, by decide +kernel⟩
  case hco => exact rfl
  case hgen => exact rfl
  case hcell => exact rfl
  case hbind => exact fun w s X => all4 fun a0 _ a1 _ a2 _ a3 _ => BindsTo.of_eq (by kernel_rfl)
  case hloc => exact all4 fun a0 _ a1 _ a2 _ a3 _ => rfl
  case hv => exact all4 fun a0 i0 a1 i1 a2 i2 a3 i3 => ⟨⟨a0, rfl, i0⟩, ⟨a1, rfl, i1⟩, ⟨a2, rfl, i2⟩, ⟨a3, rfl, i3⟩, trivial⟩
  intro c
  refine' J.expr ?_
  refine' J.meth ?_
  refine' J.name .hd ?_
  refine' MetV.mk (a := BUF _ _) .hd (BUF.recv (by decide +kernel)) m515_touch ?_
  refine' J.args1 ?_
  refine' J.cbool ?_
  refine' Sp.use (touch_sp) (.cons .hd .nil) (Nat.le_of_ble_eq_true rfl) ?_
  intro _ _
  refine' J.forE (.tail _ (.tail _ (.tail _ (.tail _ (.head _))))) ?_
  refine' J.callT (T := "list") ⟨by kernel_rfl, by kernel_rfl⟩ blt_list ?_
  refine' J.args1 ?_
  refine' J.attr ?_
  refine' J.name .hd ?_
  refine' BUF.unfG .hd ?_; intro g9 cl9 mr9 rw9 ls9 cs9 gs9 ge9 pt9 ti9 ci9 hb9
  with_reducible refine' GB.listeners .hd ?_
  refine' JC.listI (.tl (.tl (.tl (.tl (.tl .hd))))) (by first | exact Nat.zero_le _ | omega) ?_
  intro D21
  with_reducible refine' EmpV.mk .hd ?_
  refine' J.nil ?_
  refine' EndQ.mk () trivial rfl ?_
  refine' BUF.ent (.cons (.tl .hd) (.cons (.tl .hd) (.cons (.tl .hd) (.cons (.tl .hd) (.cons (.tl .hd) (.cons (.tl .hd) .nil)))))) (by assumption) rfl ?_
  exact Ent.nil
theorem hung_out_sp : Sp (σ := Unit) (.ref 104) [.ref b, .int p, .int e] [BUF b text] 2 (fun _ => True) (fun _ => .none) (fun _ R => BUF b text :: R) := by
  refine' Sp.intro (kb := 0) (nm := [st "buffer", st "start", st "end"]) ⟨?ho, ?hcd, ?hS, ?hco, ?hgen, ?hcell⟩ (fun vs => [st "buffer", st "start", st "end"].zip vs) [some (.ref b), some (.int p), some (.int e)] (fun _ _ => rfl) ?hbind ?hloc ?hv ?jb
  case ho => intro w; show (_ : _) = _; unfold KF; k_is
  case hcd => intro w; show (_ : _) = _; unfold KF; k_is
  case hS => exact ⟨rfl, by decide +kernel, by decide +kernel⟩
  case hco => exact rfl
  case hgen => exact rfl
  case hcell => exact rfl
  case hbind => exact fun w s X => all3 fun a0 _ a1 _ a2 _ => BindsTo.of_eq (by kernel_rfl)
  case hloc => exact all3 fun a0 _ a1 _ a2 _ => rfl
  case hv => exact all3 fun a0 i0 a1 i1 a2 i2 => ⟨⟨a0, rfl, i0⟩, ⟨a1, rfl, i1⟩, ⟨a2, rfl, i2⟩, trivial⟩
  intro c
  refine' J.if1 ?_
  refine' JT.cmp ?_
  refine' J.attr ?_
  refine' J.name .hd ?_
  with_reducible refine' GC.props .hd ?_
  refine' J.cnone ?_
  with_reducible refine' CmpT.isnN ?_
  refine' J.iflast ?_
  refine' JT.cmp ?_
  refine' J.attr ?_
  refine' J.name .hd ?_
  with_reducible refine' GC.overlays .hd ?_
  refine' J.cnone ?_
  with_reducible refine' CmpT.isnN ?_
  refine' J.nil ?_
  exact EndQ.mk () trivial rfl (Ent.refl _)
theorem hung_in_sp {f : Bool} : Sp (σ := Unit) (.ref 111) [.ref b, .int p, .int e, .bool f] [BUF b text] 2 (fun _ => True) (fun _ => .none) (fun _ R => BUF b text :: R) := by
  refine' Sp.intro (kb := 0) (nm := [st "buffer", st "place", st "many", st "before_markers"]) ⟨?ho, ?hcd, ?hS, ?hco, ?hgen, ?hcell⟩ (fun vs => [st "buffer", st "place", st "many", st "before_markers"].zip vs) [some (.ref b), some (.int p), some (.int e), some (.bool f)] (fun _ _ => rfl) ?hbind ?hloc ?hv ?jb
  case ho => intro w; show (_ : _) = _; unfold KF; k_is
  case hcd => intro w; show (_ : _) = _; unfold KF; k_is
  case hS => exact ⟨rfl, by decide +kernel, by decide +kernel⟩
  case hco => exact rfl
  case hgen => exact rfl
  case hcell => exact rfl
  case hbind => exact fun w s X => all4 fun a0 _ a1 _ a2 _ a3 _ => BindsTo.of_eq (by kernel_rfl)
  case hloc => exact all4 fun a0 _ a1 _ a2 _ a3 _ => rfl
  case hv => exact all4 fun a0 i0 a1 i1 a2 i2 a3 i3 => ⟨⟨a0, rfl, i0⟩, ⟨a1, rfl, i1⟩, ⟨a2, rfl, i2⟩, ⟨a3, rfl, i3⟩, trivial⟩
  intro c
  refine' J.if1 ?_
  refine' JT.cmp ?_
  refine' J.attr ?_
  refine' J.name .hd ?_
  with_reducible refine' GC.props .hd ?_
  refine' J.cnone ?_
  with_reducible refine' CmpT.isnN ?_
  refine' J.iflast ?_
  refine' JT.cmp ?_
  refine' J.attr ?_
  refine' J.name .hd ?_
  with_reducible refine' GC.overlays .hd ?_
  refine' J.cnone ?_
  with_reducible refine' CmpT.isnN ?_
  refine' J.nil ?_
  exact EndQ.mk () trivial rfl (Ent.refl _)
theorem numbers_sp : Sp (σ := Addr) (.ref 329) [.ref mr] [OB mr 374 [(st "rows", .ref rw)], DE rw] 2 (fun _ => True) (fun q => .ref q) (fun q R => LI q [] :: OB mr 374 [(st "rows", .ref rw)] :: DE rw :: R) := by
  refine' Sp.intro (kb := 0) (nm := [st "self"]) ⟨?ho, ?hcd, ?hS, ?hco, ?hgen, ?hcell⟩ (fun vs => [st "self"].zip vs) [some (.ref mr)] (fun _ _ => rfl) ?hbind ?hloc ?hv ?jb
  case ho => intro w; show (_ : _) = _; unfold KF; k_is
  case hcd => intro w; show (_ : _) = _; unfold KF; k_is
  case hS => exact ⟨rfl, by decide +kernel, by decide +kernel⟩
  case hco => exact rfl
  case hgen => exact rfl
  case hcell => exact rfl
  case hbind => exact fun w s X => all1 fun a0 _ => BindsTo.of_eq (by kernel_rfl)
  case hloc => exact all1 fun a0 _ => rfl
  case hv => exact all1 fun a0 i0 => ⟨⟨a0, rfl, i0⟩, trivial⟩
  intro c
  refine' J.ret ?_
  refine' J.callB (id := "sorted") ⟨by kernel_rfl, by kernel_rfl⟩ blt_sorted ?_
  refine' J.args1 ?_
  refine' J.attr ?_
  refine' J.name .hd ?_
  with_reducible refine' GM.rows .hd ?_
  with_reducible refine' JC.sortedD (.tl .hd) ?_
  intro D4
  all_goals exact EndQ.mk _ trivial rfl (Ent.refl _)
theorem deleted_sp : Sp (σ := Unit) (.ref 364) [.ref mr, .int p, .int e] [OB mr 374 [(st "rows", .ref rw)], DE rw] 4 (fun _ => True) (fun _ => .none) (fun q R => OB mr 374 [(st "rows", .ref rw)] :: DE rw :: R) := by
  refine' Sp.intro (kb := 2) (nm := [st "self", st "start", st "end", st "number", st "marker"]) ⟨?ho, ?hcd, ?hS, ?hco, ?hgen, ?hcell⟩ (fun vs => [st "self", st "start", st "end"].zip vs) [some (.ref mr), some (.int p), some (.int e), none, none] (fun _ _ => rfl) ?hbind ?hloc ?hv ?jb
  case ho => intro w; show (_ : _) = _; unfold KF; k_is
  case hcd => intro w; show (_ : _) = _; unfold KF; k_is
  case hS => exact ⟨rfl, by decide +kernel, by decide +kernel⟩
  case hco => exact rfl
  case hgen => exact rfl
  case hcell => exact rfl
  case hbind => exact fun w s X => all3 fun a0 _ a1 _ a2 _ => BindsTo.of_eq (by kernel_rfl)
  case hloc => exact all3 fun a0 _ a1 _ a2 _ => rfl
  case hv => exact all3 fun a0 i0 a1 i1 a2 i2 => ⟨⟨a0, rfl, i0⟩, ⟨a1, rfl, i1⟩, ⟨a2, rfl, i2⟩, trivial⟩
  intro c
  refine' J.forE (.tail _ (.tail _ (.tail _ (.head _)))) ?_
  refine' J.meth0 ?_
  refine' J.name .hd ?_
  refine' MetV.mk (a := OB _ 374 [(st "rows", .ref _)]) .hd (MOB.recv (by decide +kernel)) m374_numbers ?_
  refine' Sp.use (numbers_sp) (.cons .hd (.cons .hd .nil)) (Nat.le_of_ble_eq_true rfl) ?_
  intro q6 _
  with_reducible refine' EmpV.mk .hd ?_
  refine' J.nil ?_
  refine' EndQ.mk () trivial rfl ?_
  with_reducible refine' Ent.sel (.tl .hd) ?_
  with_reducible refine' Ent.sel (.tl .hd) ?_
  exact Ent.nil
theorem inserted_sp {f : Bool} : Sp (σ := Unit) (.ref 357) [.ref mr, .int p, .int e, .bool f] [OB mr 374 [(st "rows", .ref rw)], DE rw] 4 (fun _ => True) (fun _ => .none) (fun q R => OB mr 374 [(st "rows", .ref rw)] :: DE rw :: R) := by
  refine' Sp.intro (kb := 2) (nm := [st "self", st "start", st "end", st "is_before", st "number", st "marker"]) ⟨?ho, ?hcd, ?hS, ?hco, ?hgen, ?hcell⟩ (fun vs => [st "self", st "start", st "end", st "is_before"].zip vs) [some (.ref mr), some (.int p), some (.int e), some (.bool f), none, none] (fun _ _ => rfl) ?hbind ?hloc ?hv ?jb
  case ho => intro w; show (_ : _) = _; unfold KF; k_is
  case hcd => intro w; show (_ : _) = _; unfold KF; k_is
  case hS => exact ⟨rfl, by decide +kernel, by decide +kernel⟩
  case hco => exact rfl
  case hgen => exact rfl
  case hcell => exact rfl
  case hbind => exact fun w s X => all4 fun a0 _ a1 _ a2 _ a3 _ => BindsTo.of_eq (by kernel_rfl)
  case hloc => exact all4 fun a0 _ a1 _ a2 _ a3 _ => rfl
  case hv => exact all4 fun a0 i0 a1 i1 a2 i2 a3 i3 => ⟨⟨a0, rfl, i0⟩, ⟨a1, rfl, i1⟩, ⟨a2, rfl, i2⟩, ⟨a3, rfl, i3⟩, trivial⟩
  intro c
  refine' J.forE (.tail _ (.tail _ (.tail _ (.tail _ (.head _))))) ?_
  refine' J.meth0 ?_
  refine' J.name .hd ?_
  refine' MetV.mk (a := OB _ 374 [(st "rows", .ref _)]) .hd (MOB.recv (by decide +kernel)) m374_numbers ?_
  refine' Sp.use (numbers_sp) (.cons .hd (.cons .hd .nil)) (Nat.le_of_ble_eq_true rfl) ?_
  intro q7 _
  with_reducible refine' EmpV.mk .hd ?_
  refine' J.nil ?_
  refine' EndQ.mk () trivial rfl ?_
  with_reducible refine' Ent.sel (.tl .hd) ?_
  with_reducible refine' Ent.sel (.tl .hd) ?_
  exact Ent.nil
end
section
variable {b : Addr} {text : List Int} {p e : Int}
abbrev cutT (text : List Int) (p e : Int) : List Int := text.take (p - 1).toNat ++ text.drop (e - 1).toNat
theorem cutT_len {text : List Int} {p e : Int} (hp : 1 ≤ p ∧ p ≤ e ∧ e ≤ (text.length : Int) + 1) : ((cutT text p e).length : Int) = (text.length : Int) - (e - p) := by
  simp only [cutT, List.length_append, List.length_take, List.length_drop]; omega
theorem text_out_sp (hp : 1 ≤ p ∧ p ≤ e ∧ e ≤ (text.length : Int) + 1) : Sp (σ := Addr) (.ref 90) [.ref b, .int p, .int e] [BUF b text] 6 (fun _ => True) (fun q => .ref q) (fun _ R => BUF b (cutT text p e) :: R) := by
  have hl := cutT_len hp
  refine' Sp.intro (kb := 4) (nm := [st "buffer", st "start", st "end", st "gone"]) ⟨?ho, ?hcd, ?hS, ?hco, ?hgen, ?hcell⟩ (fun vs => [st "buffer", st "start", st "end"].zip vs) [some (.ref b), some (.int p), some (.int e), none] (fun _ _ => rfl) ?hbind ?hloc ?hv ?jb
  case ho => intro w; show (_ : _) = _; unfold KF; k_is
  case hcd => intro w; show (_ : _) = _; unfold KF; k_is
  case hS => exact ⟨rfl, by decide +kernel, by decide +kernel⟩
  case hco => exact rfl
  case hgen => exact rfl
  case hcell => exact rfl
  case hbind => exact fun w s X => all3 fun a0 _ a1 _ a2 _ => BindsTo.of_eq (by kernel_rfl)
  case hloc => exact all3 fun a0 _ a1 _ a2 _ => rfl
  case hv => exact all3 fun a0 i0 a1 i1 a2 i2 => ⟨⟨a0, rfl, i0⟩, ⟨a1, rfl, i1⟩, ⟨a2, rfl, i2⟩, trivial⟩
  intro c
  refine' BUF.unf .hd ?_
  intro g cl mr rw ls cs gs ge pt ti ci h
  refine' J.if1 ?_
  refine' JT.cmp ?_
  refine' J.attr ?_
  refine' J.name .hd ?_
  with_reducible refine' GB.undo .hd ?_
  refine' J.cnone ?_
  with_reducible refine' CmpT.isnN ?_
  refine' J.asg ?_
  refine' J.meth ?_
  refine' J.attr ?_
  refine' J.name .hd ?_
  with_reducible refine' GB.text .hd ?_
  refine' MetV.mk (a := OB _ 304 (gapF _ _ _)) (.tl .hd) (GAP.recv (by decide +kernel)) m304_delete ?_
  refine' J.args ?_
  refine' J.bin ?_
  refine' J.name (.tl .hd) ?_
  refine' J.cint ?_
  with_reducible refine' BinV.sub ?_
  refine' J.args1 ?_
  refine' J.bin ?_
  refine' J.name (.tl (.tl .hd)) ?_
  refine' J.cint ?_
  with_reducible refine' BinV.sub ?_
  refine' Sp.use (gap_delete_sp (by assumption) (by omega)) (.cons (.tl .hd) (.cons (.tl .hd) .nil)) (Nat.le_of_ble_eq_true rfl) ?_
  intro ⟨q20, z20, g20⟩ h20; dsimp only at h20
  refine' StoN.mk (.tl (.tl (.tl .hd))) ?_
  refine' J.asgA ?_
  refine' J.bin ?_
  refine' J.attr ?_
  refine' J.name .hd ?_
  with_reducible refine' GB.zv (.tl (.tl .hd)) ?_
  refine' J.bin ?_
  refine' J.name (.tl (.tl .hd)) ?_
  refine' J.name (.tl .hd) ?_
  with_reducible refine' BinV.sub ?_
  with_reducible refine' BinV.sub ?_
  refine' J.name .hd ?_
  with_reducible refine' SB.zv (.tl (.tl .hd)) ?_
  refine' J.if1 ?_
  refine' JT.cmp ?_
  refine' J.attr ?_
  refine' J.name .hd ?_
  with_reducible refine' GB.point (.tl (.tl .hd)) ?_
  refine' J.name (.tl .hd) ?_
  with_reducible refine' CmpT.gt ?_ ?_
  intro h25
  refine' J.asgA ?_
  refine' J.callB (id := "max") ⟨by kernel_rfl, by kernel_rfl⟩ blt_max ?_
  refine' J.args ?_
  refine' J.name (.tl .hd) ?_
  refine' J.args1 ?_
  refine' J.bin ?_
  refine' J.attr ?_
  refine' J.name .hd ?_
  with_reducible refine' GB.point (.tl (.tl .hd)) ?_
  refine' J.bin ?_
  refine' J.name (.tl (.tl .hd)) ?_
  refine' J.name (.tl .hd) ?_
  with_reducible refine' BinV.sub ?_
  with_reducible refine' BinV.sub ?_
  with_reducible refine' JC.maxI ?_
  refine' J.name .hd ?_
  with_reducible refine' SB.point (.tl (.tl .hd)) ?_
  refine' J.nil ?_
  with_reducible refine' Seq.nx ?_
  refine' J.ret ?_
  refine' J.name (.tl (.tl (.tl .hd))) ?_
  rotate_left
  intro h25
  refine' J.ret ?_
  refine' J.name (.tl (.tl (.tl .hd))) ?_
  rotate_left
  · refine' EndQ.mk _ trivial rfl ?_
    refine' BUF.ent (.cons (.tl (.tl .hd)) (.cons .hd (.cons .hd (.cons .hd (.cons .hd (.cons .hd .nil)))))) (by assumption) (by omega) ?_
    exact Ent.nil
  · refine' EndQ.mk _ trivial rfl ?_
    refine' BUF.ent (.cons (.tl (.tl .hd)) (.cons .hd (.cons .hd (.cons .hd (.cons .hd (.cons .hd .nil)))))) (by assumption) (by omega) ?_
    exact Ent.nil
theorem delete_sp (hp : 1 ≤ p ∧ p < e ∧ e ≤ (text.length : Int) + 1) : Sp (σ := Addr) (.ref 133) [.ref b, .int p, .int e] [BUF b text] 8 (fun _ => True) (fun q => .ref q) (fun _ R => BUF b (cutT text p e) :: R) := by
  have hl : ((cutT text p e).length : Int) = (text.length : Int) - (e - p) := cutT_len (by omega)
  have e1 : min p e = p := by omega
  have e2 : max p e = e := by omega
  refine' Sp.intro (kb := 6) (nm := [st "buffer", st "start", st "end", st "low", st "high", st "gone"]) ⟨?ho, ?hcd, ?hS, ?hco, ?hgen, ?hcell⟩ (fun vs => [st "buffer", st "start", st "end"].zip vs) [some (.ref b), some (.int p), some (.int e), none, none, none] (fun _ _ => rfl) ?hbind ?hloc ?hv ?jb
  case ho => intro w; show (_ : _) = _; unfold KF; k_is
  case hcd => intro w; show (_ : _) = _; unfold KF; k_is
  case hS => exact ⟨rfl, by decide +kernel, by decide +kernel⟩
  case hco => exact rfl
  case hgen => exact rfl
  case hcell => exact rfl
  case hbind => exact fun w s X => all3 fun a0 _ a1 _ a2 _ => BindsTo.of_eq (by kernel_rfl)
  case hloc => exact all3 fun a0 _ a1 _ a2 _ => rfl
  case hv => exact all3 fun a0 i0 a1 i1 a2 i2 => ⟨⟨a0, rfl, i0⟩, ⟨a1, rfl, i1⟩, ⟨a2, rfl, i2⟩, trivial⟩
  intro c
  refine' J.expr ?_
  refine' J.callG ⟨by kernel_rfl, by kernel_rfl⟩ g_need_writable kg_need_writable ?_
  refine' J.args1 ?_
  refine' J.name .hd ?_
  refine' Sp.use (need_writable_sp) (.cons .hd .nil) (Nat.le_of_ble_eq_true rfl) ?_
  intro _ _
  refine' J.asgT2 ?_
  refine' J.callG ⟨by kernel_rfl, by kernel_rfl⟩ g_reached kg_reached ?_
  refine' J.args ?_
  refine' J.name .hd ?_
  refine' J.args ?_
  refine' J.name (.tl .hd) ?_
  refine' J.args1 ?_
  refine' J.name (.tl (.tl .hd)) ?_
  refine' Sp.use (reached_sp (by omega) (by omega)) (.cons .hd .nil) (Nat.le_of_ble_eq_true rfl) ?_
  intro q12 _
  refine' UnpT.mk2 .hd (.tl (.tl (.tl .hd))) (.tl (.tl (.tl (.tl .hd)))) ?_
  refine' J.if1 ?_
  refine' JT.cmp ?_
  refine' J.name (.tl (.tl (.tl .hd))) ?_
  refine' J.name (.tl (.tl (.tl (.tl .hd)))) ?_
  with_reducible refine' CmpT.eq ?_ ?_
  intro h14
  exfalso; omega
  intro h14
  refine' J.expr ?_
  refine' J.callG ⟨by kernel_rfl, by kernel_rfl⟩ g_tell_ahead kg_tell_ahead ?_
  refine' J.args ?_
  refine' J.name .hd ?_
  refine' J.args ?_
  refine' J.name (.tl (.tl (.tl .hd))) ?_
  refine' J.args1 ?_
  refine' J.name (.tl (.tl (.tl (.tl .hd)))) ?_
  rw [e1, e2]
  refine' Sp.use (tell_ahead_sp) (.cons .hd .nil) (Nat.le_of_ble_eq_true rfl) ?_
  intro _ _
  refine' J.asg ?_
  refine' J.callG ⟨by kernel_rfl, by kernel_rfl⟩ g_text_out kg_text_out ?_
  refine' J.args ?_
  refine' J.name .hd ?_
  refine' J.args ?_
  refine' J.name (.tl (.tl (.tl .hd))) ?_
  refine' J.args1 ?_
  refine' J.name (.tl (.tl (.tl (.tl .hd)))) ?_
  refine' Sp.use (text_out_sp (by omega)) (.cons .hd .nil) (Nat.le_of_ble_eq_true rfl) ?_
  intro q17 _
  refine' StoN.mk (.tl (.tl (.tl (.tl (.tl .hd))))) ?_
  refine' J.expr ?_
  refine' J.meth ?_
  refine' J.attr ?_
  refine' J.name .hd ?_
  refine' BUF.unfG .hd ?_; intro g19 cl19 mr19 rw19 ls19 cs19 gs19 ge19 pt19 ti19 ci19 hb19
  with_reducible refine' GB.markers .hd ?_
  refine' MetV.mk (a := OB _ 374 [(st "rows", .ref _)]) (.tl (.tl (.tl .hd))) (MOB.recv (by decide +kernel)) m374_deleted ?_
  refine' J.args ?_
  refine' J.name (.tl (.tl (.tl .hd))) ?_
  refine' J.args1 ?_
  refine' J.name (.tl (.tl (.tl (.tl .hd)))) ?_
  refine' Sp.use (deleted_sp) (.cons (.tl (.tl (.tl .hd))) (.cons (.tl (.tl (.tl .hd))) .nil)) (Nat.le_of_ble_eq_true rfl) ?_
  intro _ _
  refine' J.expr ?_
  refine' J.callG ⟨by kernel_rfl, by kernel_rfl⟩ g_hung_out kg_hung_out ?_
  refine' J.args ?_
  refine' J.name .hd ?_
  refine' J.args ?_
  refine' J.name (.tl (.tl (.tl .hd))) ?_
  refine' J.args1 ?_
  refine' J.name (.tl (.tl (.tl (.tl .hd)))) ?_
  refine' Sp.useE (hung_out_sp) (BUF.ent (.cons (.tl (.tl .hd)) (.cons (.tl (.tl .hd)) (.cons (.tl (.tl .hd)) (.cons .hd (.cons .hd (.cons .hd .nil)))))) (by assumption) rfl (Ent.refl _)) (Nat.le_of_ble_eq_true rfl) ?_
  intro _ _
  refine' J.expr ?_
  refine' J.callG ⟨by kernel_rfl, by kernel_rfl⟩ g_tell_behind kg_tell_behind ?_
  refine' J.args ?_
  refine' J.name .hd ?_
  refine' J.args ?_
  refine' J.name (.tl (.tl (.tl .hd))) ?_
  refine' J.args ?_
  refine' J.name (.tl (.tl (.tl .hd))) ?_
  refine' J.args1 ?_
  refine' J.bin ?_
  refine' J.name (.tl (.tl (.tl (.tl .hd)))) ?_
  refine' J.name (.tl (.tl (.tl .hd))) ?_
  with_reducible refine' BinV.sub ?_
  refine' Sp.use (tell_behind_sp) (.cons .hd .nil) (Nat.le_of_ble_eq_true rfl) ?_
  intro _ _
  refine' J.ret ?_
  refine' J.name (.tl (.tl (.tl (.tl (.tl .hd))))) ?_
  exact EndQ.mk _ trivial rfl (Ent.refl _)
end
noncomputable def rowE : List Int → Nat
  | [] => 0
  | x :: t => if x = 10 then 0 else rowE t + 1
theorem rowE_le : ∀ t : List Int, rowE t ≤ t.length
  | [] => Nat.le_refl _
  | x :: t => by
    simp only [rowE]
    split
    · exact Nat.zero_le _
    · have := rowE_le t; simp only [List.length_cons]; omega
theorem rowE_no : ∀ (t : List Int) (j : Nat), j < rowE t → t.getD j 0 ≠ 10
  | [], _, h => absurd h (Nat.not_lt_zero _)
  | x :: t, j, h => by
    simp only [rowE] at h
    split at h
    · exact absurd h (Nat.not_lt_zero _)
    · rename_i hx
      cases j with
      | zero => exact hx
      | succ j => exact rowE_no t j (by omega)
theorem rowE_at : ∀ t : List Int, rowE t < t.length → t.getD (rowE t) 0 = 10
  | [], h => absurd h (Nat.not_lt_zero _)
  | x :: t, h => by
    simp only [rowE] at h ⊢
    split
    · rename_i hx; exact hx
    · rename_i hx
      rw [if_neg hx] at h
      exact rowE_at t (by simp only [List.length_cons] at h; omega)
theorem rowE_eq (t : List Int) (e : Nat) (he : e ≤ t.length) (h1 : ∀ j, j < e → t.getD j 0 ≠ 10) (h2 : e = t.length ∨ t.getD e 0 = 10) : rowE t = e := by
  rcases Nat.lt_trichotomy (rowE t) e with h | h | h
  · exact absurd (rowE_at t (by omega)) (h1 _ h)
  · exact h
  · rcases h2 with h2 | h2
    · have := rowE_le t; omega
    · exact absurd h2 (rowE_no t e h)
noncomputable abbrev rowA (t : List Int) : Nat := min (rowE t + 1) t.length
noncomputable def GR (kp : List Int → Bool) (lo hi : Int) : Nat → Int → List Int → List Int × Int
  | 0, _, t => (t, 0)
  | n + 1, s, t => if 0 < rowA t ∧ lo ≤ s ∧ s + (rowA t : Int) ≤ hi ∧ kp (t.take (rowE t)) = false then ((GR kp lo hi n (s + (rowA t : Int)) (t.drop (rowA t))).1, (GR kp lo hi n (s + (rowA t : Int)) (t.drop (rowA t))).2 + 1)
      else (t.take (rowA t) ++ (GR kp lo hi n (s + (rowA t : Int)) (t.drop (rowA t))).1, (GR kp lo hi n (s + (rowA t : Int)) (t.drop (rowA t))).2)
theorem rowA_pos {t : List Int} (h : t ≠ []) : 0 < rowA t := by
  have : 0 < t.length := List.length_pos_iff.mpr h
  unfold rowA; omega
theorem GR_nil {kp : List Int → Bool} {lo hi : Int} : ∀ (n : Nat) (s : Int), GR kp lo hi n s [] = ([], 0)
  | 0, _ => rfl
  | n + 1, s => by
    have e : rowA ([] : List Int) = 0 := rfl
    simp only [GR, e]
    rw [if_neg (by omega), List.drop_nil, GR_nil n]
    rfl
theorem GR_fuel {kp : List Int → Bool} {lo hi : Int} : ∀ (n m : Nat) (s : Int) (t : List Int), t.length ≤ n → t.length ≤ m → GR kp lo hi n s t = GR kp lo hi m s t
  | 0, m, s, t, h, _ => by
    have : t = [] := List.eq_nil_of_length_eq_zero (by omega)
    subst this; rw [GR_nil, GR_nil]
  | n + 1, 0, s, t, _, h => by
    have : t = [] := List.eq_nil_of_length_eq_zero (by omega)
    subst this; rw [GR_nil, GR_nil]
  | n + 1, m + 1, s, t, h1, h2 => by
    by_cases c : t = []
    · subst c; rw [GR_nil, GR_nil]
    · have hp := rowA_pos c
      simp only [GR]
      rw [GR_fuel n m _ (t.drop (rowA t)) (by rw [List.length_drop]; omega) (by rw [List.length_drop]; omega)]
noncomputable def GT (kp : List Int → Bool) (lo hi s : Int) (t : List Int) : List Int × Int := GR kp lo hi t.length s t
theorem GT_step {kp : List Int → Bool} {lo hi s : Int} {t : List Int} (h : t ≠ []) : GT kp lo hi s t = if lo ≤ s ∧ s + (rowA t : Int) ≤ hi ∧ kp (t.take (rowE t)) = false then ((GT kp lo hi (s + (rowA t : Int)) (t.drop (rowA t))).1, (GT kp lo hi (s + (rowA t : Int)) (t.drop (rowA t))).2 + 1)
      else (t.take (rowA t) ++ (GT kp lo hi (s + (rowA t : Int)) (t.drop (rowA t))).1, (GT kp lo hi (s + (rowA t : Int)) (t.drop (rowA t))).2) := by
  have hp := rowA_pos h
  have hl : t.length = t.length - 1 + 1 := by have : 0 < t.length := List.length_pos_iff.mpr h; omega
  have e := GR_fuel (kp := kp) (lo := lo) (hi := hi) (t.length - 1) (t.drop (rowA t)).length (s + (rowA t : Int)) (t.drop (rowA t)) (by rw [List.length_drop]; omega) (Nat.le_refl _)
  unfold GT
  rw [hl]
  simp only [GR]
  rw [e]
  by_cases c : lo ≤ s ∧ s + (rowA t : Int) ≤ hi ∧ kp (t.take (rowE t)) = false
  · rw [if_pos ⟨hp, c⟩, if_pos c]
  · rw [if_neg (fun q => c q.2), if_neg c]
theorem GT_nil {kp : List Int → Bool} {lo hi s : Int} : GT kp lo hi s [] = ([], 0) := GR_nil _ _
theorem GT_stop {kp : List Int → Bool} {lo hi : Int} : ∀ (n : Nat) (s : Int) (t : List Int), t.length ≤ n → (t = [] ∨ hi < s + (rowA t : Int)) → GT kp lo hi s t = (t, 0)
  | 0, s, t, h, _ => by
    have : t = [] := List.eq_nil_of_length_eq_zero (by omega)
    subst this; exact GT_nil
  | n + 1, s, t, h, hc => by
    by_cases c : t = []
    · subst c; exact GT_nil
    · have hp := rowA_pos c
      have h2 : hi < s + (rowA t : Int) := hc.resolve_left c
      rw [GT_step c, if_neg (by omega), GT_stop n _ (t.drop (rowA t)) (by rw [List.length_drop]; omega) (by
        by_cases d : t.drop (rowA t) = []
        · exact .inl d
        · exact .inr (by omega))]
      simp only [List.take_append_drop]
theorem GT_skip {kp : List Int → Bool} {lo hi : Int} {codes : List Int} {s₀ : Nat} (h0 : s₀ = codes.length ∨ s₀ = 0 ∨ codes.getD (s₀ - 1) 0 = 10) (hs : s₀ ≤ codes.length) (hr : ∀ r : Nat, r < s₀ → (r = 0 ∨ codes.getD (r - 1) 0 = 10) → (r : Int) < lo) :
    ∀ (n s : Nat), s ≤ s₀ → s₀ - s ≤ n → (s = s₀ ∨ s = 0 ∨ codes.getD (s - 1) 0 = 10) → GT kp lo hi (s : Int) (codes.drop s) = ((codes.drop s).take (s₀ - s) ++ (GT kp lo hi (s₀ : Int) (codes.drop s₀)).1, (GT kp lo hi (s₀ : Int) (codes.drop s₀)).2)
  | 0, s, h1, h2, _ => by
    have : s = s₀ := by omega
    subst this; simp
  | n + 1, s, h1, h2, h3 => by
    by_cases e : s = s₀
    · subst e; simp
    · have h3' := h3.resolve_left e
      have hlt := hr s (by omega) h3'
      have hne : codes.drop s ≠ [] := fun q => by
        have := congrArg List.length q
        rw [List.length_drop] at this; simp at this; omega
      have hp := rowA_pos hne
      have hll : (codes.drop s).length = codes.length - s := List.length_drop ..
      have hget : ∀ j, (codes.drop s).getD j 0 = codes.getD (s + j) 0 := fun j => by simp only [List.getD_eq_getElem?_getD, List.getElem?_drop]
      have ha : s + rowA (codes.drop s) ≤ s₀ := by
        rcases h0 with h0 | h0 | h0
        · unfold rowA; omega
        · omega
        · have : rowE (codes.drop s) ≤ s₀ - 1 - s := by
            rcases Nat.lt_or_ge (s₀ - 1 - s) (rowE (codes.drop s)) with q | q
            · have := rowE_no _ _ q
              rw [hget, show s + (s₀ - 1 - s) = s₀ - 1 by omega] at this
              exact absurd h0 this
            · exact q
          unfold rowA; omega
      have hnl : s + rowA (codes.drop s) = s₀ ∨ s + rowA (codes.drop s) = 0 ∨ codes.getD (s + rowA (codes.drop s) - 1) 0 = 10 := by
        by_cases q : rowE (codes.drop s) < (codes.drop s).length
        · have := rowE_at _ q
          rw [hget] at this
          have e2 : rowA (codes.drop s) = rowE (codes.drop s) + 1 := by unfold rowA; omega
          exact .inr (.inr (by rw [e2, show s + (rowE (codes.drop s) + 1) - 1 = s + rowE (codes.drop s) by omega]; exact this))
        · left
          have e2 : rowA (codes.drop s) = (codes.drop s).length := by unfold rowA; omega
          rw [e2, hll] at ha ⊢; omega
      rw [GT_step hne, if_neg (by omega)]
      have ih := GT_skip (kp := kp) (hi := hi) h0 hs hr n (s + rowA (codes.drop s)) ha (by omega) hnl
      rw [show ((s : Nat) : Int) + ((rowA (codes.drop s) : Nat) : Int) = ((s + rowA (codes.drop s) : Nat) : Int) by omega, List.drop_drop, ih]
      congr 1
      rw [← List.append_assoc]
      congr 1
      rw [← List.drop_drop]
      have e3 : s₀ - s = rowA (codes.drop s) + (s₀ - (s + rowA (codes.drop s))) := by omega
      rw [e3, List.take_add]
theorem cntG_nonneg {g : Int → Bool} {k hi : Int} : ∀ (n : Nat) (p : Int), 0 ≤ cntG g k hi n p
  | 0, _ => Int.le_refl _
  | n + 1, p => by
    simp only [cntG]
    have h1 := cntG_nonneg (g := g) (k := k) (hi := hi) n (p + k)
    have h2 := cntG_nonneg (g := g) (k := k) (hi := hi) n (p + 1)
    split
    · split <;> omega
    · omega
theorem cnt_pos_of {g : Int → Bool} {k hi : Int} (hk : 1 ≤ k) : ∀ (n : Nat) (p i : Int), i = p + n → i + k ≤ hi → g i = true → 0 < cnt g k hi p
  | 0, p, i, h, h2, h3 => by
    have e : i = p := by omega
    subst e
    have := cntG_nonneg (g := g) (k := k) (hi := hi) (hi + 1 - (i + k)).toNat (i + k)
    rw [cnt_hit hk h2 h3]; unfold cnt; omega
  | n + 1, p, i, h, h2, h3 => by
    by_cases c : g p = true
    · have := cntG_nonneg (g := g) (k := k) (hi := hi) (hi + 1 - (p + k)).toNat (p + k)
      rw [cnt_hit hk (by omega) c]; unfold cnt; omega
    · rw [cnt_miss hk (by simpa using c)]
      exact cnt_pos_of hk n (p + 1) i (by omega) h2 h3
theorem cnt_pos {g : Int → Bool} {k hi p : Int} (hk : 1 ≤ k) : 0 < cnt g k hi p ↔ ∃ i, p ≤ i ∧ i + k ≤ hi ∧ g i = true := by
  constructor
  · intro h
    rcases Classical.em (∃ i, p ≤ i ∧ i + k ≤ hi ∧ g i = true) with q | q
    · exact q
    · rw [cnt_none hk (fun i a b => by
        cases e : g i with
        | false => rfl
        | true => exact absurd ⟨i, a, b, e⟩ q)] at h
      omega
  · rintro ⟨i, a, b, c⟩
    exact cnt_pos_of hk (i - p).toNat p i (by omega) b c
theorem codeAt_app {found t : List Int} {j : Nat} (h : j < t.length) : codeAt (found ++ t) ((found.length : Int) + 1 + (j : Int)) = t.getD j 0 := by
  rw [codeAt_in (by omega) (by rw [List.length_append]; omega)]
  simp only [List.getD_eq_getElem?_getD]
  rw [show ((found.length : Int) + 1 + (j : Int) - 1).toNat = found.length + j by omega, List.getElem?_append_right (by omega)]
  congr 2; omega
theorem end_row {found t : List Int} {le : Int} (h1 : (found.length : Int) + 1 ≤ le) (h2 : le ≤ ((found ++ t).length : Int) + 1) (h3 : le = ((found ++ t).length : Int) + 1 ∨ codeAt (found ++ t) le = 10) (h4 : ∀ i, (found.length : Int) + 1 ≤ i → i < le → codeAt (found ++ t) i ≠ 10) : le = (found.length : Int) + 1 + (rowE t : Int) := by
  rw [List.length_append] at h2 h3
  have e : rowE t = (le - ((found.length : Int) + 1)).toNat := rowE_eq t _ (by omega) (fun j hj => by
    have := h4 ((found.length : Int) + 1 + (j : Int)) (by omega) (by omega)
    rwa [codeAt_app (by omega)] at this) (by
    by_cases c : (le - ((found.length : Int) + 1)).toNat = t.length
    · exact .inl c
    · right
      rcases h3 with h3 | h3
      · omega
      · rw [show le = (found.length : Int) + 1 + (((le - ((found.length : Int) + 1)).toNat : Nat) : Int) by omega, codeAt_app (by omega)] at h3
        exact h3)
  omega
/-- does the text stand in the row -/
noncomputable def mt (own : List Int) (f : Bool) (row : List Int) : Bool := decide (0 < cnt (fitsB row own f) (own.length : Int) ((row.length : Int) + 1) 1)
theorem fitsB_iff {text own : List Int} {f : Bool} {p : Int} : fitsB text own f p = true ↔ ∀ j : Nat, j < own.length → eqc f (codeAt text (p + (j : Int))) (own.getD j 0) = true := by
  constructor
  · intro h j hj
    unfold fitsB at h
    rw [List.all_eq_true] at h
    exact h j (List.mem_range.mpr hj)
  · exact fits_true
theorem row_match {found t own : List Int} {f : Bool} (hown : 1 ≤ own.length) (hnl : ∀ j, j < own.length → eqc f 10 (own.getD j 0) = false) :
    (∃ i, (found.length : Int) + 1 ≤ i ∧ i + (own.length : Int) ≤ ((found ++ t).length : Int) + 1 ∧ fitsB (found ++ t) own f i = true ∧ (i < (found.length : Int) + 1 + (rowE t : Int) ∨ i = (found.length : Int) + 1)) ↔ mt own f (t.take (rowE t)) = true := by
  have hle := rowE_le t
  have hrl : (t.take (rowE t)).length = rowE t := by rw [List.length_take]; omega
  have hrow : ∀ j : Nat, j < rowE t → codeAt (t.take (rowE t)) (1 + (j : Int)) = t.getD j 0 := fun j hj => by
    rw [codeAt_in (by omega) (by rw [hrl]; omega)]
    simp only [List.getD_eq_getElem?_getD]
    rw [show (1 + (j : Int) - 1).toNat = j by omega, List.getElem?_take_of_lt hj]
  unfold mt
  rw [decide_eq_true_eq, cnt_pos (by omega), hrl]
  constructor
  · rintro ⟨i, a1, a2, a3, a4⟩
    rw [List.length_append] at a2
    rw [fitsB_iff] at a3
    have hin : i + (own.length : Int) ≤ (found.length : Int) + 1 + (rowE t : Int) := by
      rcases Int.lt_or_le ((found.length : Int) + 1 + (rowE t : Int)) (i + (own.length : Int)) with q | q
      · exfalso
        have hlt : rowE t < t.length := by omega
        have h10 := rowE_at t hlt
        have := a3 ((found.length : Int) + 1 + (rowE t : Int) - i).toNat (by omega)
        rw [show i + ((((found.length : Int) + 1 + (rowE t : Int) - i).toNat : Nat) : Int) = (found.length : Int) + 1 + (rowE t : Int) by omega, codeAt_app hlt, h10, hnl _ (by omega)] at this
        cases this
      · exact q
    refine ⟨i - (found.length : Int), by omega, by omega, fitsB_iff.mpr fun j hj => ?_⟩
    have := a3 j hj
    rw [show i + (j : Int) = (found.length : Int) + 1 + (((i - (found.length : Int) - 1).toNat + j : Nat) : Int) by omega, codeAt_app (by omega)] at this
    rw [show i - (found.length : Int) + (j : Int) = 1 + (((i - (found.length : Int) - 1).toNat + j : Nat) : Int) by omega, hrow _ (by omega)]
    exact this
  · rintro ⟨i, a1, a2, a3⟩
    rw [fitsB_iff] at a3
    refine ⟨i + (found.length : Int), by omega, by rw [List.length_append]; omega, fitsB_iff.mpr fun j hj => ?_, by omega⟩
    have := a3 j hj
    rw [show i + (j : Int) = 1 + (((i - 1).toNat + j : Nat) : Int) by omega, hrow _ (by omega)] at this
    rw [show i + (found.length : Int) + (j : Int) = (found.length : Int) + 1 + (((i - 1).toNat + j : Nat) : Int) by omega, codeAt_app (by omega)]
    exact this
def RI (kp : List Int → Bool) (lo hi : Int) (codes text : List Int) (at9 many : Int) : Prop :=
  (∃ (found : List Int) (s : Nat), s ≤ codes.length ∧ text = found ++ codes.drop s ∧ at9 = (found.length : Int) + 1 ∧ lo ≤ (s : Int) ∧ (found ++ (GT kp lo hi (s : Int) (codes.drop s)).1, many + (GT kp lo hi (s : Int) (codes.drop s)).2) = GT kp lo hi 0 codes) ∨
  (at9 = (codes.length : Int) + 2 ∧ text = codes ∧ (text, many) = GT kp lo hi 0 codes)
section
variable {kp : List Int → Bool} {lo hi : Int} {codes text : List Int} {at9 many : Int}
theorem RI.len (h : RI kp lo hi codes text at9 many) : at9 = (codes.length : Int) + 2 ∨ (1 ≤ at9 ∧ at9 ≤ (text.length : Int) + 1) := by
  rcases h with ⟨found, s, h1, h2, h3, h4, h5⟩ | ⟨h1, _, _⟩
  · right; rw [h2, List.length_append]; omega
  · exact .inl h1
theorem RI.stop (h : RI kp lo hi codes text at9 many) (hc : ¬ at9 < (text.length : Int) + 1 - ((codes.length : Int) + 1 - (hi + 1))) : (text, many) = GT kp lo hi 0 codes := by
  rcases h with ⟨found, s, h1, h2, h3, h4, h5⟩ | ⟨_, _, h⟩
  · have hl : text.length = found.length + (codes.length - s) := by rw [h2, List.length_append, List.length_drop]
    rw [GT_stop (codes.drop s).length s (codes.drop s) (Nat.le_refl _) (by
      by_cases c : codes.drop s = []
      · exact .inl c
      · have := rowA_pos c
        exact .inr (by omega))] at h5
    rw [← h5, h2]; simp
  · exact h
theorem RI.open_ (h : RI kp lo hi codes text at9 many) (hc : at9 < (text.length : Int) + 1 - ((codes.length : Int) + 1 - (hi + 1))) (hh : hi ≤ (codes.length : Int)) :
    ∃ (found : List Int) (s : Nat), s < codes.length ∧ text = found ++ codes.drop s ∧ at9 = (found.length : Int) + 1 ∧ lo ≤ (s : Int) ∧ (s : Int) < hi ∧ (found ++ (GT kp lo hi (s : Int) (codes.drop s)).1, many + (GT kp lo hi (s : Int) (codes.drop s)).2) = GT kp lo hi 0 codes := by
  rcases h with ⟨found, s, h1, h2, h3, h4, h5⟩ | ⟨h1, h2, _⟩
  · have hl : text.length = found.length + (codes.length - s) := by rw [h2, List.length_append, List.length_drop]
    exact ⟨found, s, by omega, h2, h3, h4, by omega, h5⟩
  · rw [h2] at hc; omega
/-- what the row's end says -/
theorem RI.row (h : RI kp lo hi codes text at9 many) (hc : at9 < (text.length : Int) + 1 - ((codes.length : Int) + 1 - (hi + 1))) (hh : hi ≤ (codes.length : Int)) {le : Int}
    (h1 : at9 ≤ le) (h2 : le ≤ (text.length : Int) + 1) (h3 : le = (text.length : Int) + 1 ∨ codeAt text le = 10) (h4 : ∀ i, at9 ≤ i → i < le → codeAt text i ≠ 10) :
    at9 < min (le + 1) ((text.length : Int) + 1) ∧ 1 ≤ at9 ∧
    (¬ min (le + 1) ((text.length : Int) + 1) ≤ (text.length : Int) + 1 - ((codes.length : Int) + 1 - (hi + 1)) → (text, many) = GT kp lo hi 0 codes) ∧
    (min (le + 1) ((text.length : Int) + 1) ≤ (text.length : Int) + 1 - ((codes.length : Int) + 1 - (hi + 1)) → ∃ row, (∀ own f, 1 ≤ own.length → (∀ j, j < own.length → eqc f 10 (own.getD j 0) = false) → ((∃ i, at9 ≤ i ∧ i + (own.length : Int) ≤ (text.length : Int) + 1 ∧ fitsB text own f i = true ∧ (i < le ∨ i = at9)) ↔ mt own f row = true)) ∧
      (kp row = true → RI kp lo hi codes text (min (le + 1) ((text.length : Int) + 1)) many) ∧
      (kp row = false → RI kp lo hi codes (text.take (at9 - 1).toNat ++ text.drop (min (le + 1) ((text.length : Int) + 1) - 1).toNat) at9 (many + 1))) := by
  obtain ⟨found, s, b1, b2, b3, b4, b5, b6⟩ := h.open_ hc hh
  have hdl : (codes.drop s).length = codes.length - s := List.length_drop ..
  have hl : text.length = found.length + (codes.length - s) := by rw [b2, List.length_append, hdl]
  have hne : codes.drop s ≠ [] := fun q => by rw [q] at hdl; simp at hdl; omega
  have hp := rowA_pos hne
  have hle : le = (found.length : Int) + 1 + (rowE (codes.drop s) : Int) := by
    rw [b3] at h1 h4; rw [b2] at h2 h3 h4
    exact end_row h1 h2 h3 h4
  have hE := rowE_le (codes.drop s)
  have hA : min (le + 1) ((text.length : Int) + 1) = (found.length : Int) + 1 + (rowA (codes.drop s) : Int) := by unfold rowA; omega
  have hAl : rowA (codes.drop s) ≤ codes.length - s := by unfold rowA; omega
  rw [hA]
  refine ⟨by omega, by omega, fun c => ?_, fun c => ⟨(codes.drop s).take (rowE (codes.drop s)), fun own f o1 o2 => ?_, fun k => ?_, fun k => ?_⟩⟩
  · rw [GT_stop (codes.drop s).length s (codes.drop s) (Nat.le_refl _) (.inr (by omega))] at b6
    rw [← b6, b2]; simp
  · rw [b2, b3, hle]
    exact row_match o1 o2
  · left
    rw [GT_step hne, if_neg (by rw [k]; simp)] at b6
    refine ⟨found ++ (codes.drop s).take (rowA (codes.drop s)), s + rowA (codes.drop s), by omega, ?_, ?_, by omega, ?_⟩
    · rw [b2, List.append_assoc, ← List.drop_drop, List.take_append_drop]
    · rw [List.length_append, List.length_take]; omega
    · rw [← b6, ← List.drop_drop, List.append_assoc]; rfl
  · left
    rw [GT_step hne, if_pos ⟨b4, by omega, k⟩] at b6
    refine ⟨found, s + rowA (codes.drop s), by omega, ?_, b3, by omega, ?_⟩
    · rw [b2, b3, show ((found.length : Int) + 1 - 1).toNat = found.length by omega, List.take_left' rfl, dropR (by omega), ← List.drop_drop]
      congr 2; omega
    · rw [← b6, ← List.drop_drop]
      congr 1
      show _ + 1 + _ = _ + (_ + 1)
      have : ((s + rowA (codes.drop s) : Nat) : Int) = (s : Int) + (rowA (codes.drop s) : Int) := by omega
      rw [this]; omega
theorem RI.first {low at0 : Int} (h1 : 1 ≤ low) (h2 : low ≤ (codes.length : Int) + 1) (hlo : lo = low - 1)
    {ls : Int} (l1 : 1 ≤ ls) (l2 : ls ≤ low) (l3 : ls = 1 ∨ codeAt codes (ls - 1) = 10) (l4 : ∀ i, ls ≤ i → i < low → codeAt codes i ≠ 10)
    (hc : (low = ls ∧ at0 = low) ∨ (low ≠ ls ∧ ∃ le, at0 = le + 1 ∧ low ≤ le ∧ le ≤ (codes.length : Int) + 1 ∧ (le = (codes.length : Int) + 1 ∨ codeAt codes le = 10) ∧ ∀ i, low ≤ i → i < le → codeAt codes i ≠ 10)) :
    RI kp lo hi codes codes at0 0 := by
  have hca : ∀ r : Nat, 0 < r → r ≤ codes.length → codeAt codes (r : Int) = codes.getD (r - 1) 0 := fun r a b => by
    rw [codeAt_in (by omega) (by omega), show ((r : Int) - 1).toNat = r - 1 by omega]
  rcases hc with ⟨c1, c2⟩ | ⟨c1, le, c2, c3, c4, c5, c6⟩
  · left
    have sk := GT_skip (kp := kp) (lo := lo) (hi := hi) (codes := codes) (s₀ := (low - 1).toNat) (by
      rcases l3 with q | q
      · exact .inr (.inl (by omega))
      · by_cases z : (low - 1).toNat = 0
        · exact .inr (.inl z)
        · right; right; rw [← hca _ (by omega) (by omega)]; rw [show (((low - 1).toNat : Nat) : Int) = ls - 1 by omega]; exact q) (by omega) (fun r a _ => by omega) (low - 1).toNat 0 (by omega) (by omega) (.inr (.inl rfl))
    simp only [List.drop_zero, Nat.sub_zero] at sk
    refine ⟨codes.take (low - 1).toNat, (low - 1).toNat, by omega, by simp, by rw [List.length_take]; omega, by omega, ?_⟩
    have e0 : ((0 : Nat) : Int) = 0 := rfl
    rw [e0] at sk
    rw [sk]; simp
  · have hst : ∀ r : Nat, (r : Int) < le → r ≤ codes.length → (r = 0 ∨ codes.getD (r - 1) 0 = 10) → (r : Int) < lo := fun r a b c => by
      rcases Int.lt_or_le (r : Int) lo with q | q
      · exact q
      · exfalso
        have hls : ls < low := by omega
        rcases c with c | c
        · omega
        · have h0 : 0 < r := by omega
          rw [← hca r h0 b] at c
          rcases Int.lt_or_le (r : Int) low with d | d
          · exact l4 r (by omega) d c
          · exact c6 r d a c
    by_cases z : le = (codes.length : Int) + 1 
    · right
      have sk := GT_skip (kp := kp) (lo := lo) (hi := hi) (codes := codes) (s₀ := codes.length) (.inl rfl) (Nat.le_refl _) (fun r a c => hst r (by omega) (by omega) c) codes.length 0 (by omega) (by omega) (.inr (.inl rfl))
      simp only [List.drop_zero, Nat.sub_zero, List.drop_length, GT_nil, List.take_length, List.append_nil] at sk
      exact ⟨by omega, rfl, sk.symm⟩
    · left
      have q := c5.resolve_left z
      have hle : (le.toNat : Int) = le := by omega
      have sk := GT_skip (kp := kp) (lo := lo) (hi := hi) (codes := codes) (s₀ := le.toNat) (.inr (.inr (by rw [← hca _ (by omega) (by omega), hle]; exact q))) (by omega) (fun r a c => hst r (by omega) (by omega) c) le.toNat 0 (by omega) (by omega) (.inr (.inl rfl))
      simp only [List.drop_zero, Nat.sub_zero] at sk
      have e0 : ((0 : Nat) : Int) = 0 := rfl
      rw [e0] at sk
      refine ⟨codes.take le.toNat, le.toNat, by omega, by simp, by rw [List.length_take]; omega, by omega, ?_⟩
      rw [sk]; simp
end
section
variable {kp : List Int → Bool} {hi : Int} {codes text : List Int} {a b ls le at9 many : Int}
theorem RI.a0 (h1 : 1 ≤ a ∧ a ≤ (codes.length : Int) + 1) (h2 : 1 ≤ b ∧ b ≤ (codes.length : Int) + 1) (hls : LSP codes (min a b) ls) (c : min a b = ls) : RI kp (min a b - 1) hi codes codes (min a b) 0 := by
  obtain ⟨l1, l2, l3, l4⟩ := hls
  exact RI.first (low := min a b) (by omega) (by omega) rfl l1 l2 l3 l4 (.inl ⟨c, rfl⟩)
theorem RI.b0 (h1 : 1 ≤ a ∧ a ≤ (codes.length : Int) + 1) (h2 : 1 ≤ b ∧ b ≤ (codes.length : Int) + 1) (hls : LSP codes (min a b) ls) (c : ¬ min a b = ls) (hle : LEP codes (min a b) le) : RI kp (min a b - 1) hi codes codes (le + 1) 0 := by
  obtain ⟨l1, l2, l3, l4⟩ := hls
  obtain ⟨m1, m2, m3, m4⟩ := hle
  exact RI.first (low := min a b) (by omega) (by omega) rfl l1 l2 l3 l4 (.inr ⟨c, le, rfl, m1, m2, m3, m4⟩)
section
variable {own : List Int} {f kept : Bool} {lo s e : Int}
theorem RI.end3 (h : RI kp lo (e - 1) codes text at9 many) (hle : LEP text at9 le) (hh : e ≤ (codes.length : Int) + 1) (hc : at9 < (text.length : Int) + 1 - ((codes.length : Int) + 1 - e)) (hx : (text.length : Int) + 1 - ((codes.length : Int) + 1 - e) < min (le + 1) ((text.length : Int) + 1)) : (text, many) = GT kp lo (e - 1) 0 codes := by
  obtain ⟨m1, m2, m3, m4⟩ := hle
  have hr := h.row (by omega) (by omega) m1 m2 m3 m4
  rw [show e - 1 + 1 = e by omega] at hr
  exact hr.2.2.1 (Int.not_le.mpr hx)
theorem RI.stop3 (h : RI kp lo (e - 1) codes text at9 many) (hc : ¬ at9 < (text.length : Int) + 1 - ((codes.length : Int) + 1 - e)) : (text, many) = GT kp lo (e - 1) 0 codes := h.stop (by omega)
theorem RI.next3 (h : RI (fun row => mt own f row == kept) lo (e - 1) codes text at9 many) (hle : LEP text at9 le) (hh : e ≤ (codes.length : Int) + 1) (hc : at9 < (text.length : Int) + 1 - ((codes.length : Int) + 1 - e)) (hx : ¬ (text.length : Int) + 1 - ((codes.length : Int) + 1 - e) < min (le + 1) ((text.length : Int) + 1))
    (how : 1 ≤ own.length) (hnl : ∀ j, j < own.length → eqc f 10 (own.getD j 0) = false) : (at9 < min (le + 1) ((text.length : Int) + 1) ∧ 1 ≤ at9) ∧ ∀ r, rmP (fitsB text own f) own.length at9 le ((text.length : Int) + 1) r →
      (r = kept → RI (fun row => mt own f row == kept) lo (e - 1) codes text (min (le + 1) ((text.length : Int) + 1)) many) ∧ (¬ r = kept → RI (fun row => mt own f row == kept) lo (e - 1) codes (cutT text at9 (min (le + 1) ((text.length : Int) + 1))) at9 (many + 1)) := by
  obtain ⟨m1, m2, m3, m4⟩ := hle
  have hr := h.row (by omega) (by omega) m1 m2 m3 m4
  rw [show e - 1 + 1 = e by omega] at hr
  obtain ⟨r1, r2, r3, r4⟩ := hr
  obtain ⟨row, s1, s2, s3⟩ := r4 (Int.not_lt.mp hx)
  refine ⟨⟨r1, r2⟩, fun r hm => ?_⟩
  have hb : r = mt own f row := Bool.eq_iff_iff.mpr (Iff.trans hm (s1 own f how hnl))
  exact ⟨fun q => s2 (by rw [← hb, q]; exact beq_self_eq_true _), fun q => s3 (by rw [← hb]; exact beq_eq_false_iff_ne.mpr q)⟩
end
theorem RI.len2 {lo : Int} (h : RI kp lo hi codes text at9 many) : (at9 = (codes.length : Int) + 2 ∧ (text.length : Int) = (codes.length : Int)) ∨ (1 ≤ at9 ∧ at9 ≤ (text.length : Int) + 1) := by
  rcases h with ⟨found, s, h1, h2, h3, h4, h5⟩ | ⟨h1, h2, _⟩
  · right; rw [h2, List.length_append]; omega
  · left; rw [h2]; exact ⟨h1, rfl⟩
end
theorem BUF.ee {b : Addr} {t1 t2 : List Int} (h : t1 = t2) : Ent [BUF b t1] [BUF b t2] := h ▸ Ent.refl _
section
variable {k : Nat} {c : Cx} {S : Fn} {vals : Vals} {H : List Asn} {b x lo : Addr} {text own codes : List Int} {s e : Int} {f kept : Bool}
theorem BUF.bd {α β : Type} {Rr : α → β → Prop} {t : Sem α} {Q : β → Vals → List Asn → Prop} (h : At H (BUF b text)) (q : text.length ≤ 1000 → J Rr k c S vals H t Q) : J Rr k c S vals H t Q := fun ok F s g => by
  obtain ⟨mv, N, e, Fm, NN, nd, st, sl⟩ := g.open_
  obtain ⟨N1, N2, rfl, st1, st2⟩ := Star.app.mp st
  obtain ⟨X, Y, Z, rfl, z, hz, _⟩ := h.split st1
  exact q (GOf.le hz) ok F s g
noncomputable abbrev rowsG (own : List Int) (f kept : Bool) (s e : Int) (codes : List Int) : List Int × Int := GT (fun row => mt own f row == kept) (min s e - 1) (max s e - 1) 0 codes
theorem rows_by_sp (hol : own.length ≤ 10) (how : 1 ≤ own.length) (hnl : ∀ j, j < own.length → eqc f 10 (own.getD j 0) = false) (h1 : 1 ≤ s ∧ s ≤ (codes.length : Int) + 1) (h2 : 1 ≤ e ∧ e ≤ (codes.length : Int) + 1) : Sp (σ := Unit) (.ref 203) [.ref b, .ref x, .int s, .int e, .bool kept] [OB x 178 [(st "codes", .ref lo), (st "is_folded", .bool f)], LI lo own, BUF b codes] 12 (fun _ => True) (fun _ => .int (rowsG own f kept s e codes).2) (fun _ R => OB x 178 [(st "codes", .ref lo), (st "is_folded", .bool f)] :: LI lo own :: BUF b (rowsG own f kept s e codes).1 :: R) := by
  have h3 : 1 ≤ min s e ∧ min s e ≤ (codes.length : Int) + 1 := by omega
  refine' Sp.intro (kb := 10) (nm := [st "buffer", st "finder", st "start", st "end", st "is_kept", st "low", st "high", st "at", st "left", st "many", st "stop", st "after"]) ⟨?ho, ?hcd, ?hS, ?hco, ?hgen, ?hcell⟩ (fun vs => [st "buffer", st "finder", st "start", st "end", st "is_kept"].zip vs) [some (.ref b), some (.ref x), some (.int s), some (.int e), some (.bool kept), none, none, none, none, none, none, none] (fun _ _ => rfl) ?hbind ?hloc ?hv ?jb
  case ho => intro w; show (_ : _) = _; unfold KF; k_is
  case hcd => intro w; show (_ : _) = _; unfold KF; k_is
  case hS => exact ⟨rfl, by decide +kernel, by decide +kernel⟩
  case hco => exact rfl
  case hgen => exact rfl
  case hcell => exact rfl
  case hbind => exact fun w s X => all5 fun a0 _ a1 _ a2 _ a3 _ a4 _ => BindsTo.of_eq (by kernel_rfl)
  case hloc => exact all5 fun a0 _ a1 _ a2 _ a3 _ a4 _ => rfl
  case hv => exact all5 fun a0 i0 a1 i1 a2 i2 a3 i3 a4 i4 => ⟨⟨a0, rfl, i0⟩, ⟨a1, rfl, i1⟩, ⟨a2, rfl, i2⟩, ⟨a3, rfl, i3⟩, ⟨a4, rfl, i4⟩, trivial⟩
  intro c
  refine' BUF.bd (.tl (.tl .hd)) ?_
  intro hcl
  refine' J.asgT2 ?_
  refine' J.callG ⟨by kernel_rfl, by kernel_rfl⟩ g_reached kg_reached ?_
  refine' J.args ?_
  refine' J.name .hd ?_
  refine' J.args ?_
  refine' J.name (.tl (.tl .hd)) ?_
  refine' J.args1 ?_
  refine' J.name (.tl (.tl (.tl .hd))) ?_
  refine' Sp.use (reached_sp (by assumption) (by assumption)) (.cons (.tl (.tl .hd)) .nil) (Nat.le_of_ble_eq_true rfl) ?_
  intro q18 _
  refine' UnpT.mk2 .hd (.tl (.tl (.tl (.tl (.tl .hd))))) (.tl (.tl (.tl (.tl (.tl (.tl .hd)))))) ?_
  refine' J.asg ?_
  refine' J.mono (Q := fun u v1 H1 => ∃ at0, u = .int at0 ∧ RI (fun row => mt own f row == kept) (min s e - 1) (max s e - 1) codes codes at0 0 ∧ v1 = [some (.ref b), some (.ref x), some (.int s), some (.int e), some (.bool kept), some (.int (min s e)), some (.int (max s e)), none, none, none, none, none] ∧ H1 = [BUF b codes, OB x 178 [(st "codes", .ref lo), (st "is_folded", .bool f)], LI lo own]) ?_ ?_
  · refine' J.ifexp ?_
    refine' JT.cmp ?_
    refine' J.name (.tl (.tl (.tl (.tl (.tl .hd))))) ?_
    refine' J.callG ⟨by kernel_rfl, by kernel_rfl⟩ g_line_start kg_line_start ?_
    refine' J.args ?_
    refine' J.name .hd ?_
    refine' J.args1 ?_
    refine' J.name (.tl (.tl (.tl (.tl (.tl .hd))))) ?_
    refine' Sp.use (line_start_sp (by assumption)) (.cons .hd .nil) (Nat.le_of_ble_eq_true rfl) ?_
    intro e20 h20
    with_reducible refine' CmpT.eq ?_ ?_
    intro h22
    refine' J.name (.tl (.tl (.tl (.tl (.tl .hd))))) ?_
    rotate_left
    intro h22
    refine' J.bin ?_
    refine' J.callG ⟨by kernel_rfl, by kernel_rfl⟩ g_line_end kg_line_end ?_
    refine' J.args ?_
    refine' J.name .hd ?_
    refine' J.args1 ?_
    refine' J.name (.tl (.tl (.tl (.tl (.tl .hd))))) ?_
    refine' Sp.use (line_end_sp (by assumption)) (.cons .hd .nil) (Nat.le_of_ble_eq_true rfl) ?_
    intro e23 h23
    refine' J.cint ?_
    with_reducible refine' BinV.add ?_
    rotate_left
    · rename LSP _ _ _ => hls
      exact ⟨_, rfl, RI.a0 h1 h2 hls (by assumption), rfl, rfl⟩
    · rename LSP _ _ _ => hls
      rename LEP _ _ _ => hle
      exact ⟨_, rfl, RI.b0 h1 h2 hls (by assumption) hle, rfl, rfl⟩
  rintro _ _ _ ⟨at0, rfl, hI0, rfl, rfl⟩
  refine' StoN.mk (.tl (.tl (.tl (.tl (.tl (.tl (.tl .hd))))))) ?_
  refine' J.asg ?_
  refine' J.bin ?_
  refine' J.attr ?_
  refine' J.name .hd ?_
  with_reducible refine' GC.zv .hd ?_
  refine' J.name (.tl (.tl (.tl (.tl (.tl (.tl .hd)))))) ?_
  with_reducible refine' BinV.sub ?_
  refine' StoN.mk (.tl (.tl (.tl (.tl (.tl (.tl (.tl (.tl .hd)))))))) ?_
  refine' J.asg ?_
  refine' J.cint ?_
  refine' StoN.mk (.tl (.tl (.tl (.tl (.tl (.tl (.tl (.tl (.tl .hd))))))))) ?_
  refine' J.whil (σ := List Int × Int × Int) (fun z => [some (.ref b), some (.ref x), some (.int s), some (.int e), some (.bool kept), some (.int (min s e)), some (.int (max s e)), some (.int z.2.1), some (.int ((codes.length : Int) + 1 - max s e)), some (.int z.2.2), none, none]) (fun z => [OB x 178 [(st "codes", .ref lo), (st "is_folded", .bool f)], LI lo own, BUF b z.1]) (fun z => RI (fun row => mt own f row == kept) (min s e - 1) (max s e - 1) codes z.1 z.2.1 z.2.2) (fun z => ((z.1.length : Int) + 1 - z.2.1).toNat) (codes, at0, 0) hI0 (Le.refl _) ?_ ?_
  · with_reducible refine' Ent.sel (.tl .hd) ?_
    with_reducible refine' Ent.sel (.tl .hd) ?_
    with_reducible refine' Ent.sel .hd ?_
    exact Ent.nil
  rintro ⟨text, at9, mn⟩ hI
  have hlen := hI.len2
  refine' BUF.bd (.tl (.tl .hd)) ?_
  intro htl
  dsimp only at *
  have hmx : max s e ≤ (codes.length : Int) + 1 := by omega
  refine' JT.cmp ?_
  refine' J.name (.tl (.tl (.tl (.tl (.tl (.tl (.tl .hd))))))) ?_
  refine' J.bin ?_
  refine' J.attr ?_
  refine' J.name .hd ?_
  with_reducible refine' GC.zv (.tl (.tl .hd)) ?_
  refine' J.name (.tl (.tl (.tl (.tl (.tl (.tl (.tl (.tl .hd)))))))) ?_
  with_reducible refine' BinV.sub ?_
  with_reducible refine' CmpT.lt ?_ ?_
  intro h32
  refine' J.asg ?_
  refine' J.callG ⟨by kernel_rfl, by kernel_rfl⟩ g_line_end kg_line_end ?_
  refine' J.args ?_
  refine' J.name .hd ?_
  refine' J.args1 ?_
  refine' J.name (.tl (.tl (.tl (.tl (.tl (.tl (.tl .hd))))))) ?_
  refine' Sp.use (line_end_sp (by omega)) (.cons (.tl (.tl .hd)) .nil) (Nat.le_of_ble_eq_true rfl) ?_
  intro e33 h33
  refine' StoN.mk (.tl (.tl (.tl (.tl (.tl (.tl (.tl (.tl (.tl (.tl .hd)))))))))) ?_
  refine' J.asg ?_
  refine' J.callB (id := "min") ⟨by kernel_rfl, by kernel_rfl⟩ blt_min ?_
  refine' J.args ?_
  refine' J.bin ?_
  refine' J.name (.tl (.tl (.tl (.tl (.tl (.tl (.tl (.tl (.tl (.tl .hd)))))))))) ?_
  refine' J.cint ?_
  with_reducible refine' BinV.add ?_
  refine' J.args1 ?_
  refine' J.attr ?_
  refine' J.name .hd ?_
  with_reducible refine' GC.zv .hd ?_
  with_reducible refine' JC.minI ?_
  refine' StoN.mk (.tl (.tl (.tl (.tl (.tl (.tl (.tl (.tl (.tl (.tl (.tl .hd))))))))))) ?_
  refine' J.if1 ?_
  refine' JT.cmp ?_
  refine' J.name (.tl (.tl (.tl (.tl (.tl (.tl (.tl (.tl (.tl (.tl (.tl .hd))))))))))) ?_
  refine' J.bin ?_
  refine' J.attr ?_
  refine' J.name .hd ?_
  with_reducible refine' GC.zv .hd ?_
  refine' J.name (.tl (.tl (.tl (.tl (.tl (.tl (.tl (.tl .hd)))))))) ?_
  with_reducible refine' BinV.sub ?_
  with_reducible refine' CmpT.gt ?_ ?_
  intro h35
  refine' J.ret ?_
  refine' J.name (.tl (.tl (.tl (.tl (.tl (.tl (.tl (.tl (.tl .hd))))))))) ?_
  with_reducible refine' Seq.rt ?_
  with_reducible refine' WQ.rt ?_
  with_reducible refine' Seq.rt ?_
  refine' EndQ.mk () trivial ?_ ?_
  refine' FlV.int ?_
  rotate_left
  with_reducible refine' Ent.sel (.tl .hd) ?_
  with_reducible refine' Ent.sel (.tl .hd) ?_
  rotate_left
  intro h35
  refine' J.iflast ?_
  refine' JT.cmp ?_
  refine' J.callG ⟨by kernel_rfl, by kernel_rfl⟩ g_row_matches kg_row_matches ?_
  refine' J.args ?_
  refine' J.name .hd ?_
  refine' J.args ?_
  refine' J.name (.tl .hd) ?_
  refine' J.args ?_
  refine' J.name (.tl (.tl (.tl (.tl (.tl (.tl (.tl .hd))))))) ?_
  refine' J.args1 ?_
  refine' J.name (.tl (.tl (.tl (.tl (.tl (.tl (.tl (.tl (.tl (.tl .hd)))))))))) ?_
  rotate_left
  intro h32
  refine' J.ret ?_
  refine' J.name (.tl (.tl (.tl (.tl (.tl (.tl (.tl (.tl (.tl .hd))))))))) ?_
  refine' EndQ.mk () trivial ?_ ?_
  refine' FlV.int ?_
  rotate_left
  with_reducible refine' Ent.sel .hd ?_
  with_reducible refine' Ent.sel .hd ?_
  rotate_left
  · rename LEP _ _ _ => hle
    exact congrArg Prod.snd (hI.end3 hle hmx (by assumption) (by assumption))
  · rename LEP _ _ _ => hle
    exact BUF.ee (congrArg Prod.fst (hI.end3 hle hmx (by assumption) (by assumption)))
  · rename LEP _ _ _ => hle
    obtain ⟨⟨r1, r2⟩, r3⟩ := hI.next3 hle hmx (by assumption) (by assumption) how hnl
    obtain ⟨m1, m2, -, -⟩ := hle
    refine' Sp.use (row_matches_sp (by assumption) (by assumption) (by omega) (by omega)) (.cons (.tl .hd) (.cons (.tl .hd) (.cons .hd .nil))) (Nat.le_of_ble_eq_true rfl) ?_
    intro r42 h42
    refine' J.name (.tl (.tl (.tl (.tl .hd)))) ?_
    with_reducible refine' CmpT.eqB ?_ ?_
    intro h44
    refine' J.asg ?_
    refine' J.name (.tl (.tl (.tl (.tl (.tl (.tl (.tl (.tl (.tl (.tl (.tl .hd))))))))))) ?_
    refine' StoN.mk (.tl (.tl (.tl (.tl (.tl (.tl (.tl .hd))))))) ?_
    refine' J.nil ?_
    rotate_left
    intro h44
    refine' J.expr ?_
    refine' J.callG ⟨by kernel_rfl, by kernel_rfl⟩ g_delete kg_delete ?_
    refine' J.args ?_
    refine' J.name .hd ?_
    refine' J.args ?_
    refine' J.name (.tl (.tl (.tl (.tl (.tl (.tl (.tl .hd))))))) ?_
    refine' J.args1 ?_
    refine' J.name (.tl (.tl (.tl (.tl (.tl (.tl (.tl (.tl (.tl (.tl (.tl .hd))))))))))) ?_
    refine' Sp.use (delete_sp (by omega)) (.cons (.tl (.tl .hd)) .nil) (Nat.le_of_ble_eq_true rfl) ?_
    intro q45 _
    refine' J.asg ?_
    refine' J.bin ?_
    refine' J.name (.tl (.tl (.tl (.tl (.tl (.tl (.tl (.tl (.tl .hd))))))))) ?_
    refine' J.cint ?_
    with_reducible refine' BinV.add ?_
    refine' StoN.mk (.tl (.tl (.tl (.tl (.tl (.tl (.tl (.tl (.tl .hd))))))))) ?_
    refine' J.nil ?_
    rotate_left
    · rename rmP _ _ _ _ _ _ => hm
      refine' WQ.nx (text, _, mn) ((r3 _ hm).1 (by assumption)) (by dsimp only; omega) ?_ ?_
      exact (.keep (.keep (.keep (.keep (.keep (.keep (.keep (.keep (.keep (.keep (.drop (.drop .nil))))))))))))
      with_reducible refine' Ent.sel .hd ?_
      with_reducible refine' Ent.sel .hd ?_
      with_reducible refine' Ent.sel .hd ?_
      exact Ent.nil
    · rename rmP _ _ _ _ _ _ => hm
      have hl := cutT_len (text := text) (p := at9) (e := min (_ + 1) ((text.length : Int) + 1)) ⟨r2, Int.le_of_lt r1, Int.min_le_right _ _⟩
      refine' WQ.nx (_, at9, mn + 1) ((r3 _ hm).2 (by assumption)) (by dsimp only [cutT] at hl ⊢; omega) ?_ ?_
      exact (.keep (.keep (.keep (.keep (.keep (.keep (.keep (.keep (.keep (.keep (.drop (.drop .nil))))))))))))
      with_reducible refine' Ent.sel (.tl .hd) ?_
      with_reducible refine' Ent.sel (.tl .hd) ?_
      with_reducible refine' Ent.sel .hd ?_
      exact Ent.nil
  · exact congrArg Prod.snd (hI.stop3 (by assumption))
  · exact BUF.ee (congrArg Prod.fst (hI.stop3 (by assumption)))
end
section
variable {b x lo g cl : Addr} {text own codes cs : List Int} {s e p gs ge : Int} {f kept : Bool}
theorem keep_sp (hol : own.length ≤ 10) (how : 1 ≤ own.length) (hnl : ∀ j, j < own.length → eqc f 10 (own.getD j 0) = false) (h1 : 1 ≤ s ∧ s ≤ (codes.length : Int) + 1) (h2 : 1 ≤ e ∧ e ≤ (codes.length : Int) + 1) : Sp (σ := Unit) (.ref 210) [.ref b, .ref x, .int s, .int e] [OB x 178 [(st "codes", .ref lo), (st "is_folded", .bool f)], LI lo own, BUF b codes] 14 (fun _ => True) (fun _ => .int (rowsG own f true s e codes).2) (fun _ R => OB x 178 [(st "codes", .ref lo), (st "is_folded", .bool f)] :: LI lo own :: BUF b (rowsG own f true s e codes).1 :: R) := by
  refine' Sp.intro (kb := 12) (nm := [st "buffer", st "finder", st "start", st "end"]) ⟨?ho, ?hcd, ?hS, ?hco, ?hgen, ?hcell⟩ (fun vs => [st "buffer", st "finder", st "start", st "end"].zip vs) [some (.ref b), some (.ref x), some (.int s), some (.int e)] (fun _ _ => rfl) ?hbind ?hloc ?hv ?jb
  case ho => intro w; show (_ : _) = _; unfold KF; k_is
  case hcd => intro w; show (_ : _) = _; unfold KF; k_is
  case hS => exact ⟨rfl, by decide +kernel, by decide +kernel⟩
  case hco => exact rfl
  case hgen => exact rfl
  case hcell => exact rfl
  case hbind => exact fun w s X => all4 fun a0 _ a1 _ a2 _ a3 _ => BindsTo.of_eq (by kernel_rfl)
  case hloc => exact all4 fun a0 _ a1 _ a2 _ a3 _ => rfl
  case hv => exact all4 fun a0 i0 a1 i1 a2 i2 a3 i3 => ⟨⟨a0, rfl, i0⟩, ⟨a1, rfl, i1⟩, ⟨a2, rfl, i2⟩, ⟨a3, rfl, i3⟩, trivial⟩
  intro c
  refine' J.ret ?_
  refine' J.callG ⟨by kernel_rfl, by kernel_rfl⟩ g_rows_by kg_rows_by ?_
  refine' J.args ?_
  refine' J.name .hd ?_
  refine' J.args ?_
  refine' J.name (.tl .hd) ?_
  refine' J.args ?_
  refine' J.name (.tl (.tl .hd)) ?_
  refine' J.args ?_
  refine' J.name (.tl (.tl (.tl .hd))) ?_
  refine' J.args1 ?_
  refine' J.cbool ?_
  refine' Sp.use (rows_by_sp (by assumption) (by assumption) (by assumption) (by assumption) (by assumption)) (.cons .hd (.cons .hd (.cons .hd .nil))) (Nat.le_of_ble_eq_true rfl) ?_
  intro _ _
  exact EndQ.mk () trivial rfl (Ent.refl _)
theorem flush_sp (hol : own.length ≤ 10) (how : 1 ≤ own.length) (hnl : ∀ j, j < own.length → eqc f 10 (own.getD j 0) = false) (h1 : 1 ≤ s ∧ s ≤ (codes.length : Int) + 1) (h2 : 1 ≤ e ∧ e ≤ (codes.length : Int) + 1) : Sp (σ := Unit) (.ref 217) [.ref b, .ref x, .int s, .int e] [OB x 178 [(st "codes", .ref lo), (st "is_folded", .bool f)], LI lo own, BUF b codes] 14 (fun _ => True) (fun _ => .int (rowsG own f false s e codes).2) (fun _ R => OB x 178 [(st "codes", .ref lo), (st "is_folded", .bool f)] :: LI lo own :: BUF b (rowsG own f false s e codes).1 :: R) := by
  refine' Sp.intro (kb := 12) (nm := [st "buffer", st "finder", st "start", st "end"]) ⟨?ho, ?hcd, ?hS, ?hco, ?hgen, ?hcell⟩ (fun vs => [st "buffer", st "finder", st "start", st "end"].zip vs) [some (.ref b), some (.ref x), some (.int s), some (.int e)] (fun _ _ => rfl) ?hbind ?hloc ?hv ?jb
  case ho => intro w; show (_ : _) = _; unfold KF; k_is
  case hcd => intro w; show (_ : _) = _; unfold KF; k_is
  case hS => exact ⟨rfl, by decide +kernel, by decide +kernel⟩
  case hco => exact rfl
  case hgen => exact rfl
  case hcell => exact rfl
  case hbind => exact fun w s X => all4 fun a0 _ a1 _ a2 _ a3 _ => BindsTo.of_eq (by kernel_rfl)
  case hloc => exact all4 fun a0 _ a1 _ a2 _ a3 _ => rfl
  case hv => exact all4 fun a0 i0 a1 i1 a2 i2 a3 i3 => ⟨⟨a0, rfl, i0⟩, ⟨a1, rfl, i1⟩, ⟨a2, rfl, i2⟩, ⟨a3, rfl, i3⟩, trivial⟩
  intro c
  refine' J.ret ?_
  refine' J.callG ⟨by kernel_rfl, by kernel_rfl⟩ g_rows_by kg_rows_by ?_
  refine' J.args ?_
  refine' J.name .hd ?_
  refine' J.args ?_
  refine' J.name (.tl .hd) ?_
  refine' J.args ?_
  refine' J.name (.tl (.tl .hd)) ?_
  refine' J.args ?_
  refine' J.name (.tl (.tl (.tl .hd))) ?_
  refine' J.args1 ?_
  refine' J.cbool ?_
  refine' Sp.use (rows_by_sp (by assumption) (by assumption) (by assumption) (by assumption) (by assumption)) (.cons .hd (.cons .hd (.cons .hd .nil))) (Nat.le_of_ble_eq_true rfl) ?_
  intro _ _
  exact EndQ.mk () trivial rfl (Ent.refl _)
theorem gap_size_sp (h : GOf cs gs ge text) : Sp (σ := Unit) (.ref 238) [.ref g] [OB g 304 (gapF cl gs ge), LI cl cs] 2 (fun _ => True) (fun _ => .int (text.length : Int)) (fun _ R => OB g 304 (gapF cl gs ge) :: LI cl cs :: R) := by
  have gl := h.len
  have gz := h.2.2.2.2
  refine' Sp.intro (kb := 0) (nm := [st "self"]) ⟨?ho, ?hcd, ?hS, ?hco, ?hgen, ?hcell⟩ (fun vs => [st "self"].zip vs) [some (.ref g)] (fun _ _ => rfl) ?hbind ?hloc ?hv ?jb
  case ho => intro w; show (_ : _) = _; unfold KF; k_is
  case hcd => intro w; show (_ : _) = _; unfold KF; k_is
  case hS => exact ⟨rfl, by decide +kernel, by decide +kernel⟩
  case hco => exact rfl
  case hgen => exact rfl
  case hcell => exact rfl
  case hbind => exact fun w s X => all1 fun a0 _ => BindsTo.of_eq (by kernel_rfl)
  case hloc => exact all1 fun a0 _ => rfl
  case hv => exact all1 fun a0 i0 => ⟨⟨a0, rfl, i0⟩, trivial⟩
  intro c
  refine' J.ret ?_
  refine' J.bin ?_
  refine' J.bin ?_
  refine' J.callB (id := "len") ⟨by kernel_rfl, by kernel_rfl⟩ blt_len ?_
  refine' J.args1 ?_
  refine' J.attr ?_
  refine' J.name .hd ?_
  with_reducible refine' GG.cells .hd ?_
  refine' JC.len (.tl .hd) (by omega) ?_
  refine' J.attr ?_
  refine' J.name .hd ?_
  with_reducible refine' GG.gap_end .hd ?_
  with_reducible refine' BinV.sub ?_
  refine' J.attr ?_
  refine' J.name .hd ?_
  with_reducible refine' GG.gap_start .hd ?_
  with_reducible refine' BinV.add ?_
  refine' EndQ.mk () trivial ?_ ?_
  refine' FlV.int ?_
  rotate_left
  with_reducible refine' Ent.sel .hd ?_
  with_reducible refine' Ent.sel .hd ?_
  exact Ent.nil
  omega
theorem size_sp : Sp (σ := Unit) (.ref 463) [.ref b] [BUF b text] 4 (fun _ => True) (fun _ => .int (text.length : Int)) (fun _ R => BUF b text :: R) := by
  refine' Sp.intro (kb := 2) (nm := [st "self"]) ⟨?ho, ?hcd, ?hS, ?hco, ?hgen, ?hcell⟩ (fun vs => [st "self"].zip vs) [some (.ref b)] (fun _ _ => rfl) ?hbind ?hloc ?hv ?jb
  case ho => intro w; show (_ : _) = _; unfold KF; k_is
  case hcd => intro w; show (_ : _) = _; unfold KF; k_is
  case hS => exact ⟨rfl, by decide +kernel, by decide +kernel⟩
  case hco => exact rfl
  case hgen => exact rfl
  case hcell => exact rfl
  case hbind => exact fun w s X => all1 fun a0 _ => BindsTo.of_eq (by kernel_rfl)
  case hloc => exact all1 fun a0 _ => rfl
  case hv => exact all1 fun a0 i0 => ⟨⟨a0, rfl, i0⟩, trivial⟩
  intro c
  refine' J.ret ?_
  refine' J.meth0 ?_
  refine' J.attr ?_
  refine' J.name .hd ?_
  refine' BUF.unfG .hd ?_; intro g4 cl4 mr4 rw4 ls4 cs4 gs4 ge4 pt4 ti4 ci4 hb4
  with_reducible refine' GB.text .hd ?_
  refine' MetV.mk (a := OB _ 304 (gapF _ _ _)) (.tl .hd) (GAP.recv (by decide +kernel)) m304_size ?_
  refine' Sp.use (gap_size_sp (by assumption)) (.cons (.tl .hd) (.cons (.tl .hd) .nil)) (Nat.le_of_ble_eq_true rfl) ?_
  intro _ _
  refine' EndQ.mk () trivial rfl ?_
  refine' BUF.ent (.cons (.tl (.tl .hd)) (.cons .hd (.cons .hd (.cons .hd (.cons .hd (.cons .hd .nil)))))) (by assumption) rfl ?_
  exact Ent.nil
theorem codes_sp (hp : 1 ≤ s ∧ s ≤ e ∧ e ≤ (text.length : Int) + 1) : Sp (σ := Addr) (.ref 477) [.ref b, .int s, .int e] [BUF b text] 4 (fun _ => True) (fun q => .ref q) (fun q R => LI q ((text.drop (s - 1).toNat).take ((e - 1).toNat - (s - 1).toNat)) :: BUF b text :: R) := by
  refine' Sp.intro (kb := 2) (nm := [st "self", st "start", st "end"]) ⟨?ho, ?hcd, ?hS, ?hco, ?hgen, ?hcell⟩ (fun vs => [st "self", st "start", st "end"].zip vs) [some (.ref b), some (.int s), some (.int e)] (fun _ _ => rfl) ?hbind ?hloc ?hv ?jb
  case ho => intro w; show (_ : _) = _; unfold KF; k_is
  case hcd => intro w; show (_ : _) = _; unfold KF; k_is
  case hS => exact ⟨rfl, by decide +kernel, by decide +kernel⟩
  case hco => exact rfl
  case hgen => exact rfl
  case hcell => exact rfl
  case hbind => exact fun w s X => all3 fun a0 _ a1 _ a2 _ => BindsTo.of_eq (by kernel_rfl)
  case hloc => exact all3 fun a0 _ a1 _ a2 _ => rfl
  case hv => exact all3 fun a0 i0 a1 i1 a2 i2 => ⟨⟨a0, rfl, i0⟩, ⟨a1, rfl, i1⟩, ⟨a2, rfl, i2⟩, trivial⟩
  intro c
  refine' J.ret ?_
  refine' J.meth ?_
  refine' J.attr ?_
  refine' J.name .hd ?_
  refine' BUF.unfG .hd ?_; intro g7 cl7 mr7 rw7 ls7 cs7 gs7 ge7 pt7 ti7 ci7 hb7
  with_reducible refine' GB.text .hd ?_
  refine' MetV.mk (a := OB _ 304 (gapF _ _ _)) (.tl .hd) (GAP.recv (by decide +kernel)) m304_codes ?_
  refine' J.args ?_
  refine' J.bin ?_
  refine' J.name (.tl .hd) ?_
  refine' J.cint ?_
  with_reducible refine' BinV.sub ?_
  refine' J.args1 ?_
  refine' J.bin ?_
  refine' J.name (.tl (.tl .hd)) ?_
  refine' J.cint ?_
  with_reducible refine' BinV.sub ?_
  refine' Sp.use (gap_codes_sp (by assumption) (by omega)) (.cons (.tl .hd) (.cons (.tl .hd) .nil)) (Nat.le_of_ble_eq_true rfl) ?_
  intro q19 _
  refine' EndQ.mk _ trivial rfl ?_
  with_reducible refine' Ent.sel .hd ?_
  refine' BUF.ent (.cons (.tl (.tl .hd)) (.cons .hd (.cons .hd (.cons .hd (.cons .hd (.cons .hd .nil)))))) (by assumption) rfl ?_
  exact Ent.nil
end
section
variable {l : Addr} {own : List Int} {f : Bool}
theorem literal_sp (hol : own.length ≤ 10) : Sp (σ := Addr × Unit) (.ref 178) [.ref l, .bool f] [LI l own] 5 (fun _ => True) (fun z => .ref z.1) (fun z R => OB z.1 178 [(st "codes", .ref l), (st "is_folded", .bool f)] :: LI l own :: R) := by
  refine' Sp.introP (f := 161) (kb := 2) (nm := [st "self", st "codes", st "is_folded"]) ⟨fun w => by kernel_rfl, fun w => by kernel_rfl, fun w => by kernel_rfl⟩ ⟨?ho, ?hcd, ?hS, ?hco, ?hgen, ?hcell⟩ (fun vs => [st "self", st "codes", st "is_folded"].zip vs) (fun self => [some (.ref self), some (.ref l), some (.bool f)]) (fun _ _ => rfl) ?hbind ?hloc ?hv ?jb
  case ho => intro w; show (_ : _) = _; unfold KF; k_is
  case hcd => intro w; show (_ : _) = _; unfold KF; k_is
  case hS => exact ⟨rfl, by decide +kernel, by decide +kernel⟩
  case hco => exact rfl
  case hgen => exact rfl
  case hcell => exact rfl
  case hbind => exact fun x w s X => all3 fun a0 _ a1 _ a2 _ => BindsTo.of_eq (by kernel_rfl)
  case hloc => exact fun x => all3 fun a0 _ a1 _ a2 _ => rfl
  case hv => exact fun x => all3 fun a0 i0 a1 i1 a2 i2 => ⟨⟨a0, rfl, i0⟩, ⟨a1, rfl, i1⟩, ⟨a2, rfl, i2⟩, trivial⟩
  intro x c
  refine' J.asgA ?_
  refine' J.name (.tl .hd) ?_
  refine' J.name .hd ?_
  refine' SetN .hd .nil (by kernel_rfl) ⟨fun _ => by kernel_rfl, fun _ => by kernel_rfl, fun _ => by kernel_rfl, fun _ => by kernel_rfl⟩ ?_
  refine' J.asgA ?_
  refine' J.name (.tl (.tl .hd)) ?_
  refine' J.name .hd ?_
  refine' SetN .hd (.cons .nil) (by kernel_rfl) ⟨fun _ => by kernel_rfl, fun _ => by kernel_rfl, fun _ => by kernel_rfl, fun _ => by kernel_rfl⟩ ?_
  refine' J.nil ?_
  exact ⟨rfl, (), trivial, Ent.refl _⟩
theorem markers_sp : Sp (σ := Addr × Addr) (.ref 374) [] [] 5 (fun _ => True) (fun z => .ref z.1) (fun z R => OB z.1 374 [(st "rows", .ref z.2)] :: DE z.2 :: R) := by
  refine' Sp.introP (f := 322) (kb := 2) (nm := [st "self"]) ⟨fun w => by kernel_rfl, fun w => by kernel_rfl, fun w => by kernel_rfl⟩ ⟨?ho, ?hcd, ?hS, ?hco, ?hgen, ?hcell⟩ (fun vs => [st "self"].zip vs) (fun self => [some (.ref self)]) (fun _ _ => rfl) ?hbind ?hloc ?hv ?jb
  case ho => intro w; show (_ : _) = _; unfold KF; k_is
  case hcd => intro w; show (_ : _) = _; unfold KF; k_is
  case hS => exact ⟨rfl, by decide +kernel, by decide +kernel⟩
  case hco => exact rfl
  case hgen => exact rfl
  case hcell => exact rfl
  case hbind => exact fun x w s X => all1 fun a0 _ => BindsTo.of_eq (by kernel_rfl)
  case hloc => exact fun x => all1 fun a0 _ => rfl
  case hv => exact fun x => all1 fun a0 i0 => ⟨⟨a0, rfl, i0⟩, trivial⟩
  intro x c
  refine' J.asgA ?_
  refine' J.dict0 ?_
  intro D3
  refine' J.name .hd ?_
  refine' SetN (.tl .hd) .nil (by kernel_rfl) ⟨fun _ => by kernel_rfl, fun _ => by kernel_rfl, fun _ => by kernel_rfl, fun _ => by kernel_rfl⟩ ?_
  refine' J.nil ?_
  exact ⟨rfl, _, trivial, Ent.sel (.tl .hd) (Ent.sel .hd Ent.nil)⟩
theorem gap_sp : Sp (σ := Addr × Addr) (.ref 304) [.ref l, .int 8] [LI l []] 5 (fun _ => True) (fun z => .ref z.1) (fun z R => OB z.1 304 (gapF z.2 0 8) :: LI z.2 [0, 0, 0, 0, 0, 0, 0, 0] :: LI l [] :: R) := by
  refine' Sp.introP (f := 231) (kb := 2) (nm := [st "self", st "codes", st "room"]) ⟨fun w => by kernel_rfl, fun w => by kernel_rfl, fun w => by kernel_rfl⟩ ⟨?ho, ?hcd, ?hS, ?hco, ?hgen, ?hcell⟩ (fun vs => [st "self", st "codes", st "room"].zip vs) (fun self => [some (.ref self), some (.ref l), some (.int 8)]) (fun _ _ => rfl) ?hbind ?hloc ?hv ?jb
  case ho => intro w; show (_ : _) = _; unfold KF; k_is
  case hcd => intro w; show (_ : _) = _; unfold KF; k_is
  case hS => exact ⟨rfl, by decide +kernel, by decide +kernel⟩
  case hco => exact rfl
  case hgen => exact rfl
  case hcell => exact rfl
  case hbind => exact fun x w s X => all3 fun a0 _ a1 _ a2 _ => BindsTo.of_eq (by kernel_rfl)
  case hloc => exact fun x => all3 fun a0 _ a1 _ a2 _ => rfl
  case hv => exact fun x => all3 fun a0 i0 a1 i1 a2 i2 => ⟨⟨a0, rfl, i0⟩, ⟨a1, rfl, i1⟩, ⟨a2, rfl, i2⟩, trivial⟩
  intro x c
  refine' J.asgA ?_
  refine' J.name (.tl (.tl .hd)) ?_
  refine' J.name .hd ?_
  refine' SetN .hd .nil (by kernel_rfl) ⟨fun _ => by kernel_rfl, fun _ => by kernel_rfl, fun _ => by kernel_rfl, fun _ => by kernel_rfl⟩ ?_
  refine' J.asgA ?_
  refine' J.bin ?_
  refine' J.callT (T := "list") ⟨by kernel_rfl, by kernel_rfl⟩ blt_list ?_
  refine' J.args1 ?_
  refine' J.name (.tl .hd) ?_
  refine' JC.listI (.tl .hd) (by first | exact Nat.zero_le _ | omega) ?_
  intro D4
  refine' J.bin ?_
  refine' J.list ?_
  refine' J.args1 ?_
  refine' J.cint ?_
  refine' ⟨[_], rfl, Nat.le_of_ble_eq_true rfl, ?_⟩
  intro D5
  refine' J.name (.tl (.tl .hd)) ?_
  refine' BinV.mulL .hd (by omega) ⟨rfl, by omega⟩ ?_
  intro D6
  refine' BinV.addL (.tl (.tl .hd)) .hd (Nat.le_of_ble_eq_true rfl) ?_
  intro D7
  refine' J.name .hd ?_
  refine' SetN (.tl (.tl (.tl (.tl .hd)))) (.cons .nil) (by kernel_rfl) ⟨fun _ => by kernel_rfl, fun _ => by kernel_rfl, fun _ => by kernel_rfl, fun _ => by kernel_rfl⟩ ?_
  refine' J.asgA ?_
  refine' J.callB (id := "len") ⟨by kernel_rfl, by kernel_rfl⟩ blt_len ?_
  refine' J.args1 ?_
  refine' J.name (.tl .hd) ?_
  refine' JC.len (.tl (.tl (.tl (.tl (.tl .hd))))) (by first | exact Nat.zero_le _ | omega) ?_
  refine' J.name .hd ?_
  refine' SetN (.tl (.tl (.tl (.tl .hd)))) (.cons (.cons .nil)) (by kernel_rfl) ⟨fun _ => by kernel_rfl, fun _ => by kernel_rfl, fun _ => by kernel_rfl, fun _ => by kernel_rfl⟩ ?_
  refine' J.asgA ?_
  refine' J.bin ?_
  refine' J.callB (id := "len") ⟨by kernel_rfl, by kernel_rfl⟩ blt_len ?_
  refine' J.args1 ?_
  refine' J.name (.tl .hd) ?_
  refine' JC.len (.tl (.tl (.tl (.tl (.tl .hd))))) (by first | exact Nat.zero_le _ | omega) ?_
  refine' J.name (.tl (.tl .hd)) ?_
  with_reducible refine' BinV.add ?_
  refine' J.name .hd ?_
  refine' SetN (.tl (.tl (.tl (.tl .hd)))) (.cons (.cons (.cons .nil))) (by kernel_rfl) ⟨fun _ => by kernel_rfl, fun _ => by kernel_rfl, fun _ => by kernel_rfl, fun _ => by kernel_rfl⟩ ?_
  refine' J.nil ?_
  exact ⟨rfl, _, trivial, Ent.sel (.tl (.tl (.tl (.tl .hd)))) (Ent.sel .hd (Ent.sel (.tl (.tl (.tl .hd))) Ent.nil))⟩
end
section
abbrev freshH (b g cl mr rw ls : Addr) : List Asn := [OB b 515 (bufF g mr ls 1 1 1 1), OB g 304 (gapF cl 0 8), LI cl [0, 0, 0, 0, 0, 0, 0, 0], OB mr 374 [(st "rows", .ref rw)], DE rw, LI ls []]
theorem buffer_sp : Sp (σ := Addr × Addr × Addr × Addr × Addr × Addr) (.ref 515) [.int 1, .str (st "a")] [] 10 (fun _ => True) (fun z => .ref z.1) (fun z R => OB z.1 515 (bufF z.2.1 z.2.2.2.1 z.2.2.2.2.2 1 1 1 1) :: OB z.2.1 304 (gapF z.2.2.1 0 8) :: LI z.2.2.1 [0, 0, 0, 0, 0, 0, 0, 0] :: OB z.2.2.2.1 374 [(st "rows", .ref z.2.2.2.2.1)] :: DE z.2.2.2.2.1 :: LI z.2.2.2.2.2 [] :: R) := by
  refine' Sp.introP (f := 428) (kb := 7) (nm := [st "self", st "number", st "name", st "room"]) ⟨fun w => by kernel_rfl, fun w => by kernel_rfl, fun w => by kernel_rfl⟩ ⟨?ho, ?hcd, ?hS, ?hco, ?hgen, ?hcell⟩ (fun vs => [st "self", st "number", st "name", st "room"].zip (vs ++ [Value.int 8 771])) (fun self => [some (.ref self), some (.int 1), some (.str (st "a")), some (.int 8)]) (fun _ _ => rfl) ?hbind ?hloc ?hv ?jb
  case ho => intro w; show (_ : _) = _; unfold KF; k_is
  case hcd => intro w; show (_ : _) = _; unfold KF; k_is
  case hS => exact ⟨rfl, by decide +kernel, by decide +kernel⟩
  case hco => exact rfl
  case hgen => exact rfl
  case hcell => exact rfl
  case hbind => exact fun x w s X => all3 fun a0 _ a1 _ a2 _ => binds_K X rfl (by unfold KF; k_is) rfl rfl rfl
  case hloc => exact fun x => all3 fun a0 _ a1 _ a2 _ => rfl
  case hv => exact fun x => all3 fun a0 i0 a1 i1 a2 i2 => ⟨⟨a0, rfl, i0⟩, ⟨a1, rfl, i1⟩, ⟨a2, rfl, i2⟩, ⟨_, rfl, by first | exact rfl | exact ⟨_, rfl⟩⟩, trivial⟩
  intro x c
  refine' J.asgA ?_
  refine' J.name (.tl .hd) ?_
  refine' J.name .hd ?_
  refine' SetN .hd .nil (by kernel_rfl) ⟨fun _ => by kernel_rfl, fun _ => by kernel_rfl, fun _ => by kernel_rfl, fun _ => by kernel_rfl⟩ ?_
  refine' J.asgA ?_
  refine' J.name (.tl (.tl .hd)) ?_
  refine' J.name .hd ?_
  refine' SetN .hd (.cons .nil) (by kernel_rfl) ⟨fun _ => by kernel_rfl, fun _ => by kernel_rfl, fun _ => by kernel_rfl, fun _ => by kernel_rfl⟩ ?_
  refine' J.asgA ?_
  refine' J.callG ⟨by kernel_rfl, by kernel_rfl⟩ g_GapText kg_GapText ?_
  refine' J.args ?_
  refine' J.list ?_
  refine' J.args0 ?_
  refine' ⟨[], rfl, Nat.le_of_ble_eq_true rfl, ?_⟩
  intro D3
  refine' J.args1 ?_
  refine' J.name (.tl (.tl (.tl .hd))) ?_
  refine' Sp.use (gap_sp) (.cons .hd .nil) (Nat.le_of_ble_eq_true rfl) ?_
  intro ⟨x4, w4⟩ _
  refine' J.name .hd ?_
  refine' SetN (.tl (.tl (.tl .hd))) (.cons (.cons .nil)) (by kernel_rfl) ⟨fun _ => by kernel_rfl, fun _ => by kernel_rfl, fun _ => by kernel_rfl, fun _ => by kernel_rfl⟩ ?_
  refine' J.asgA ?_
  refine' J.callG0 ⟨by kernel_rfl, by kernel_rfl⟩ g_Markers kg_Markers ?_
  refine' Sp.use (markers_sp) .nil (Nat.le_of_ble_eq_true rfl) ?_
  intro ⟨x8, w8⟩ _
  refine' J.name .hd ?_
  refine' SetN (.tl (.tl (.tl (.tl (.tl .hd))))) (.cons (.cons (.cons .nil))) (by kernel_rfl) ⟨fun _ => by kernel_rfl, fun _ => by kernel_rfl, fun _ => by kernel_rfl, fun _ => by kernel_rfl⟩ ?_
  refine' J.asgA ?_
  refine' J.cint ?_
  refine' J.name .hd ?_
  refine' SetN (.tl (.tl (.tl (.tl (.tl .hd))))) (.cons (.cons (.cons (.cons .nil)))) (by kernel_rfl) ⟨fun _ => by kernel_rfl, fun _ => by kernel_rfl, fun _ => by kernel_rfl, fun _ => by kernel_rfl⟩ ?_
  refine' J.asgA ?_
  refine' J.cint ?_
  refine' J.name .hd ?_
  refine' SetN (.tl (.tl (.tl (.tl (.tl .hd))))) (.cons (.cons (.cons (.cons (.cons .nil))))) (by kernel_rfl) ⟨fun _ => by kernel_rfl, fun _ => by kernel_rfl, fun _ => by kernel_rfl, fun _ => by kernel_rfl⟩ ?_
  refine' J.asgA ?_
  refine' J.cint ?_
  refine' J.name .hd ?_
  refine' SetN (.tl (.tl (.tl (.tl (.tl .hd))))) (.cons (.cons (.cons (.cons (.cons (.cons .nil)))))) (by kernel_rfl) ⟨fun _ => by kernel_rfl, fun _ => by kernel_rfl, fun _ => by kernel_rfl, fun _ => by kernel_rfl⟩ ?_
  refine' J.asgA ?_
  refine' J.cnone ?_
  refine' J.name .hd ?_
  refine' SetN (.tl (.tl (.tl (.tl (.tl .hd))))) (.cons (.cons (.cons (.cons (.cons (.cons (.cons .nil))))))) (by kernel_rfl) ⟨fun _ => by kernel_rfl, fun _ => by kernel_rfl, fun _ => by kernel_rfl, fun _ => by kernel_rfl⟩ ?_
  refine' J.asgA ?_
  refine' J.cbool ?_
  refine' J.name .hd ?_
  refine' SetN (.tl (.tl (.tl (.tl (.tl .hd))))) (.cons (.cons (.cons (.cons (.cons (.cons (.cons (.cons .nil)))))))) (by kernel_rfl) ⟨fun _ => by kernel_rfl, fun _ => by kernel_rfl, fun _ => by kernel_rfl, fun _ => by kernel_rfl⟩ ?_
  refine' J.asgA ?_
  refine' J.cbool ?_
  refine' J.name .hd ?_
  refine' SetN (.tl (.tl (.tl (.tl (.tl .hd))))) (.cons (.cons (.cons (.cons (.cons (.cons (.cons (.cons (.cons .nil))))))))) (by kernel_rfl) ⟨fun _ => by kernel_rfl, fun _ => by kernel_rfl, fun _ => by kernel_rfl, fun _ => by kernel_rfl⟩ ?_
  refine' J.asgA ?_
  refine' J.cint ?_
  refine' J.name .hd ?_
  refine' SetN (.tl (.tl (.tl (.tl (.tl .hd))))) (.cons (.cons (.cons (.cons (.cons (.cons (.cons (.cons (.cons (.cons .nil)))))))))) (by kernel_rfl) ⟨fun _ => by kernel_rfl, fun _ => by kernel_rfl, fun _ => by kernel_rfl, fun _ => by kernel_rfl⟩ ?_
  refine' J.asgA ?_
  refine' J.cint ?_
  refine' J.name .hd ?_
  refine' SetN (.tl (.tl (.tl (.tl (.tl .hd))))) (.cons (.cons (.cons (.cons (.cons (.cons (.cons (.cons (.cons (.cons (.cons .nil))))))))))) (by kernel_rfl) ⟨fun _ => by kernel_rfl, fun _ => by kernel_rfl, fun _ => by kernel_rfl, fun _ => by kernel_rfl⟩ ?_
  refine' J.asgA ?_
  refine' J.cint ?_
  refine' J.name .hd ?_
  refine' SetN (.tl (.tl (.tl (.tl (.tl .hd))))) (.cons (.cons (.cons (.cons (.cons (.cons (.cons (.cons (.cons (.cons (.cons (.cons .nil)))))))))))) (by kernel_rfl) ⟨fun _ => by kernel_rfl, fun _ => by kernel_rfl, fun _ => by kernel_rfl, fun _ => by kernel_rfl⟩ ?_
  refine' J.asgA ?_
  refine' J.list ?_
  refine' J.args0 ?_
  refine' ⟨[], rfl, Nat.le_of_ble_eq_true rfl, ?_⟩
  intro D12
  refine' J.name .hd ?_
  refine' SetN (.tl (.tl (.tl (.tl (.tl (.tl .hd)))))) (.cons (.cons (.cons (.cons (.cons (.cons (.cons (.cons (.cons (.cons (.cons (.cons (.cons .nil))))))))))))) (by kernel_rfl) ⟨fun _ => by kernel_rfl, fun _ => by kernel_rfl, fun _ => by kernel_rfl, fun _ => by kernel_rfl⟩ ?_
  refine' J.asgA ?_
  refine' J.cnone ?_
  refine' J.name .hd ?_
  refine' SetN (.tl (.tl (.tl (.tl (.tl (.tl .hd)))))) (.cons (.cons (.cons (.cons (.cons (.cons (.cons (.cons (.cons (.cons (.cons (.cons (.cons (.cons .nil)))))))))))))) (by kernel_rfl) ⟨fun _ => by kernel_rfl, fun _ => by kernel_rfl, fun _ => by kernel_rfl, fun _ => by kernel_rfl⟩ ?_
  refine' J.asgA ?_
  refine' J.cnone ?_
  refine' J.name .hd ?_
  refine' SetN (.tl (.tl (.tl (.tl (.tl (.tl .hd)))))) (.cons (.cons (.cons (.cons (.cons (.cons (.cons (.cons (.cons (.cons (.cons (.cons (.cons (.cons (.cons .nil))))))))))))))) (by kernel_rfl) ⟨fun _ => by kernel_rfl, fun _ => by kernel_rfl, fun _ => by kernel_rfl, fun _ => by kernel_rfl⟩ ?_
  refine' J.asgA ?_
  refine' J.cnone ?_
  refine' J.name .hd ?_
  refine' SetN (.tl (.tl (.tl (.tl (.tl (.tl .hd)))))) (.cons (.cons (.cons (.cons (.cons (.cons (.cons (.cons (.cons (.cons (.cons (.cons (.cons (.cons (.cons (.cons .nil)))))))))))))))) (by kernel_rfl) ⟨fun _ => by kernel_rfl, fun _ => by kernel_rfl, fun _ => by kernel_rfl, fun _ => by kernel_rfl⟩ ?_
  refine' J.asgA ?_
  refine' J.cnone ?_
  refine' J.name .hd ?_
  refine' SetN (.tl (.tl (.tl (.tl (.tl (.tl .hd)))))) (.cons (.cons (.cons (.cons (.cons (.cons (.cons (.cons (.cons (.cons (.cons (.cons (.cons (.cons (.cons (.cons (.cons .nil))))))))))))))))) (by kernel_rfl) ⟨fun _ => by kernel_rfl, fun _ => by kernel_rfl, fun _ => by kernel_rfl, fun _ => by kernel_rfl⟩ ?_
  refine' J.asgA ?_
  refine' J.cnone ?_
  refine' J.name .hd ?_
  refine' SetN (.tl (.tl (.tl (.tl (.tl (.tl .hd)))))) (.cons (.cons (.cons (.cons (.cons (.cons (.cons (.cons (.cons (.cons (.cons (.cons (.cons (.cons (.cons (.cons (.cons (.cons .nil)))))))))))))))))) (by kernel_rfl) ⟨fun _ => by kernel_rfl, fun _ => by kernel_rfl, fun _ => by kernel_rfl, fun _ => by kernel_rfl⟩ ?_
  refine' J.asgA ?_
  refine' J.cnone ?_
  refine' J.name .hd ?_
  refine' SetN (.tl (.tl (.tl (.tl (.tl (.tl .hd)))))) (.cons (.cons (.cons (.cons (.cons (.cons (.cons (.cons (.cons (.cons (.cons (.cons (.cons (.cons (.cons (.cons (.cons (.cons (.cons .nil))))))))))))))))))) (by kernel_rfl) ⟨fun _ => by kernel_rfl, fun _ => by kernel_rfl, fun _ => by kernel_rfl, fun _ => by kernel_rfl⟩ ?_
  refine' J.nil ?_
  exact ⟨rfl, (_, _, _, _, _), trivial, (Ent.sel (.tl (.tl (.tl (.tl (.tl (.tl .hd)))))) (Ent.sel (.tl (.tl (.tl .hd))) (Ent.sel (.tl (.tl (.tl .hd))) (Ent.sel (.tl .hd) (Ent.sel (.tl .hd) (Ent.sel .hd Ent.nil))))))⟩
end
section
variable {b g cl l : Addr} {cs codes : List Int} {gs ge k i : Int} {f : Bool}
theorem GOf.e (h : GOf cs gs ge []) : gs = 0 ∧ ge = (cs.length : Int) := by
  obtain ⟨h1, h2, h3, h4, -⟩ := h
  have h5 := congrArg List.length h4
  simp only [List.length_append, List.length_take, List.length_drop, List.length_nil] at h5
  omega
theorem wdE {ms : List Int} {ge' : Int} (h : GOf cs gs ge []) (hk : 0 ≤ k ∧ k ≤ 100) (hp : 0 < k - (ge - gs)) (hm : ms.length = (k - (ge - gs) + 8).toNat) (e : ge' = ge + (k - (ge - gs)) + 8) : GOf (cs.take ge.toNat ++ ms ++ cs.drop ge.toNat) gs ge' [] ∧ k ≤ ge' - gs := by
  obtain ⟨e1, e2⟩ := h.e
  subst e1 e2 e
  rw [Int.toNat_natCast, List.take_length, List.drop_length, List.append_nil]
  have hl : ((cs ++ ms).length : Int) = k + 8 := by rw [List.length_append, hm]; omega
  refine ⟨⟨Int.le_refl _, by omega, by omega, ?_, by omega⟩, by omega⟩
  rw [List.drop_eq_nil_of_le (by omega)]
  rfl
theorem widen_sp (h : GOf cs gs ge []) (hk : 0 ≤ k ∧ k ≤ 100) : Sp (σ := List Int × Int) (.ref 266) [.ref g, .int k] [OB g 304 (gapF cl gs ge), LI cl cs] 2 (fun z => GOf z.1 gs z.2 [] ∧ k ≤ z.2 - gs) (fun _ => .none) (fun z R => OB g 304 (gapF cl gs z.2) :: LI cl z.1 :: R) := by
  obtain ⟨e1, e2⟩ := h.e
  have hc := h.2.2.2.2
  refine' Sp.intro (kb := 0) (nm := [st "self", st "wanted", st "lack"]) ⟨?ho, ?hcd, ?hS, ?hco, ?hgen, ?hcell⟩ (fun vs => [st "self", st "wanted"].zip vs) [some (.ref g), some (.int k), none] (fun _ _ => rfl) ?hbind ?hloc ?hv ?jb
  case ho => intro w; show (_ : _) = _; unfold KF; k_is
  case hcd => intro w; show (_ : _) = _; unfold KF; k_is
  case hS => exact ⟨rfl, by decide +kernel, by decide +kernel⟩
  case hco => exact rfl
  case hgen => exact rfl
  case hcell => exact rfl
  case hbind => exact fun w s X => all2 fun a0 _ a1 _ => BindsTo.of_eq (by kernel_rfl)
  case hloc => exact all2 fun a0 _ a1 _ => rfl
  case hv => exact all2 fun a0 i0 a1 i1 => ⟨⟨a0, rfl, i0⟩, ⟨a1, rfl, i1⟩, trivial⟩
  intro c
  refine' J.asg ?_
  refine' J.bin ?_
  refine' J.name (.tl .hd) ?_
  refine' J.bin ?_
  refine' J.attr ?_
  refine' J.name .hd ?_
  with_reducible refine' GG.gap_end .hd ?_
  refine' J.attr ?_
  refine' J.name .hd ?_
  with_reducible refine' GG.gap_start .hd ?_
  with_reducible refine' BinV.sub ?_
  with_reducible refine' BinV.sub ?_
  refine' StoN.mk (.tl (.tl .hd)) ?_
  refine' J.iflast ?_
  refine' JT.cmp ?_
  refine' J.name (.tl (.tl .hd)) ?_
  refine' J.cint ?_
  with_reducible refine' CmpT.gt ?_ ?_
  intro h13
  refine' J.asgS ?_
  refine' J.bin ?_
  refine' J.list ?_
  refine' J.args1 ?_
  refine' J.cint ?_
  refine' ⟨[_], rfl, Nat.le_of_ble_eq_true rfl, ?_⟩
  intro D14
  refine' J.bin ?_
  refine' J.name (.tl (.tl .hd)) ?_
  refine' J.attr ?_
  refine' J.name .hd ?_
  with_reducible refine' GG.room (.tl .hd) ?_
  with_reducible refine' BinV.add ?_
  refine' BinV.mulL .hd (by omega) ⟨rfl, by omega⟩ ?_
  intro D15
  refine' J.attr ?_
  refine' J.name .hd ?_
  with_reducible refine' GG.cells (.tl (.tl .hd)) ?_
  refine' JP.some ?_
  refine' J.attr ?_
  refine' J.name .hd ?_
  with_reducible refine' GG.gap_end (.tl (.tl .hd)) ?_
  refine' PInt.mk ?_
  refine' JP.some ?_
  refine' J.attr ?_
  refine' J.name .hd ?_
  with_reducible refine' GG.gap_end (.tl (.tl .hd)) ?_
  refine' PInt.mk ?_
  rotate_left
  intro h13
  refine' J.nil ?_
  rotate_left
  · generalize hm : List.replicate _ _ = ms
    have hm2 := congrArg List.length hm
    rw [List.length_replicate] at hm2
    refine' SetS.mk (.cons (.tl (.tl (.tl .hd))) (.cons .hd .nil)) ⟨by omega, by omega, by omega, by omega⟩ ?_
    refine' J.asgA ?_
    refine' J.bin ?_
    refine' J.bin ?_
    refine' J.attr ?_
    refine' J.name .hd ?_
    with_reducible refine' GG.gap_end (.tl (.tl (.tl .hd))) ?_
    refine' J.name (.tl (.tl .hd)) ?_
    with_reducible refine' BinV.add ?_
    refine' J.attr ?_
    refine' J.name .hd ?_
    with_reducible refine' GG.room (.tl (.tl (.tl .hd))) ?_
    with_reducible refine' BinV.add ?_
    refine' J.name .hd ?_
    with_reducible refine' SG.gap_end (.tl (.tl (.tl .hd))) ?_
    refine' J.nil ?_
    refine' EndQ.mk (cs.take ge.toNat ++ ms ++ cs.drop ge.toNat, ge + (k - (ge - gs)) + 8) (wdE h hk (by assumption) hm2.symm rfl) rfl ?_
    with_reducible refine' Ent.sel (.tl (.tl (.tl .hd))) ?_
    with_reducible refine' Ent.sel .hd ?_
    exact Ent.nil
  · exact EndQ.mk (cs, ge) ⟨h, by dsimp only; omega⟩ rfl (Ent.refl _)
theorem giE (h : GOf cs 0 ge []) (hk : (codes.length : Int) ≤ ge) : GOf (cs.take (0 : Int).toNat ++ codes ++ cs.drop (0 + (codes.length : Int)).toNat) (0 + (codes.length : Int)) ge codes := by
  obtain ⟨-, e2⟩ := h.e
  have hc := h.2.2.2.2
  have e0 : (0 + (codes.length : Int)).toNat = codes.length := by omega
  rw [e0, Int.toNat_zero, List.take_zero, List.nil_append]
  have hl : (codes ++ cs.drop codes.length).length = cs.length := by rw [List.length_append, List.length_drop]; omega
  refine ⟨by omega, by omega, by omega, ?_, by omega⟩
  rw [e0, List.take_left' rfl, List.drop_eq_nil_of_le (by omega), List.append_nil]
theorem gap_insert_sp (h : GOf cs gs ge []) (hk : codes.length ≤ 100) (hi : i = 0) : Sp (σ := List Int × Int) (.ref 273) [.ref g, .int i, .ref l] [OB g 304 (gapF cl gs ge), LI cl cs, LI l codes] 4 (fun z => GOf z.1 (0 + (codes.length : Int)) z.2 codes) (fun _ => .none) (fun z R => OB g 304 (gapF cl (0 + (codes.length : Int)) z.2) :: LI cl z.1 :: LI l codes :: R) := by
  obtain ⟨e1, e2⟩ := h.e
  have hz0 : ((([] : List Int).length : Nat) : Int) = 0 := rfl
  subst hi
  refine' Sp.intro (kb := 2) (nm := [st "self", st "at", st "codes"]) ⟨?ho, ?hcd, ?hS, ?hco, ?hgen, ?hcell⟩ (fun vs => [st "self", st "at", st "codes"].zip vs) [some (.ref g), some (.int 0), some (.ref l)] (fun _ _ => rfl) ?hbind ?hloc ?hv ?jb
  case ho => intro w; show (_ : _) = _; unfold KF; k_is
  case hcd => intro w; show (_ : _) = _; unfold KF; k_is
  case hS => exact ⟨rfl, by decide +kernel, by decide +kernel⟩
  case hco => exact rfl
  case hgen => exact rfl
  case hcell => exact rfl
  case hbind => exact fun w s X => all3 fun a0 _ a1 _ a2 _ => BindsTo.of_eq (by kernel_rfl)
  case hloc => exact all3 fun a0 _ a1 _ a2 _ => rfl
  case hv => exact all3 fun a0 i0 a1 i1 a2 i2 => ⟨⟨a0, rfl, i0⟩, ⟨a1, rfl, i1⟩, ⟨a2, rfl, i2⟩, trivial⟩
  intro c
  refine' J.expr ?_
  refine' J.meth ?_
  refine' J.name .hd ?_
  refine' MetV.mk (a := OB _ 304 (gapF _ _ _)) .hd (GAP.recv (by decide +kernel)) m304_widen_gap ?_
  refine' J.args1 ?_
  refine' J.callB (id := "len") ⟨by kernel_rfl, by kernel_rfl⟩ blt_len ?_
  refine' J.args1 ?_
  refine' J.name (.tl (.tl .hd)) ?_
  refine' JC.len (.tl (.tl .hd)) (by omega) ?_
  refine' Sp.use (widen_sp (by assumption) (by omega)) (.cons .hd (.cons .hd .nil)) (Nat.le_of_ble_eq_true rfl) ?_
  intro ⟨z16, g16⟩ ⟨h16, l16⟩; dsimp only at h16 l16
  refine' J.expr ?_
  refine' J.meth ?_
  refine' J.name .hd ?_
  refine' MetV.mk (a := OB _ 304 (gapF _ _ _)) .hd (GAP.recv (by decide +kernel)) m304_move_gap ?_
  refine' J.args1 ?_
  refine' J.name (.tl .hd) ?_
  refine' Sp.use (move_gap_sp (by assumption) (by omega)) (.cons .hd (.cons .hd .nil)) (Nat.le_of_ble_eq_true rfl) ?_
  intro ⟨z22, g22⟩ ⟨h22, l22⟩; dsimp only at h22 l22
  refine' J.asgS ?_
  refine' J.name (.tl (.tl .hd)) ?_
  refine' J.attr ?_
  refine' J.name .hd ?_
  with_reducible refine' GG.cells .hd ?_
  refine' JP.some ?_
  refine' J.name (.tl .hd) ?_
  refine' PInt.mk ?_
  refine' JP.some ?_
  refine' J.bin ?_
  refine' J.name (.tl .hd) ?_
  refine' J.callB (id := "len") ⟨by kernel_rfl, by kernel_rfl⟩ blt_len ?_
  refine' J.args1 ?_
  refine' J.name (.tl (.tl .hd)) ?_
  refine' JC.len (.tl (.tl .hd)) (by omega) ?_
  with_reducible refine' BinV.add ?_
  refine' PInt.mk ?_
  rename GOf _ 0 _ [] => hz
  rename GOf _ gs _ [] => hy
  have hy2 := hy.e
  have hz2 := hz.e
  have hz3 := hz.2.2.2.2
  dsimp only
  refine' SetS.mk (.cons (.tl .hd) (.cons (.tl .hd) .nil)) ⟨by omega, by omega, by omega, by omega⟩ ?_
  refine' J.asgA ?_
  refine' J.bin ?_
  refine' J.name (.tl .hd) ?_
  refine' J.callB (id := "len") ⟨by kernel_rfl, by kernel_rfl⟩ blt_len ?_
  refine' J.args1 ?_
  refine' J.name (.tl (.tl .hd)) ?_
  refine' JC.len (.tl .hd) (by omega) ?_
  with_reducible refine' BinV.add ?_
  refine' J.name .hd ?_
  with_reducible refine' SG.gap_start (.tl (.tl .hd)) ?_
  refine' J.nil ?_
  refine' EndQ.mk (_, _) (giE hz (by omega)) rfl ?_
  with_reducible refine' Ent.sel (.tl (.tl .hd)) ?_
  with_reducible refine' Ent.sel .hd ?_
  with_reducible refine' Ent.sel .hd ?_
  exact Ent.nil
end
section
variable {b l : Addr} {codes : List Int} {i : Int}
theorem text_in_sp (hk : codes.length ≤ 100) : Sp (σ := Unit) (.ref 97) [.ref b, .int 1, .ref l] [BUF b [], LI l codes] 6 (fun _ => True) (fun _ => .none) (fun _ R => BUF b codes :: LI l codes :: R) := by
  have hz0 : ((([] : List Int).length : Nat) : Int) = 0 := rfl
  refine' Sp.intro (kb := 4) (nm := [st "buffer", st "place", st "codes"]) ⟨?ho, ?hcd, ?hS, ?hco, ?hgen, ?hcell⟩ (fun vs => [st "buffer", st "place", st "codes"].zip vs) [some (.ref b), some (.int 1), some (.ref l)] (fun _ _ => rfl) ?hbind ?hloc ?hv ?jb
  case ho => intro w; show (_ : _) = _; unfold KF; k_is
  case hcd => intro w; show (_ : _) = _; unfold KF; k_is
  case hS => exact ⟨rfl, by decide +kernel, by decide +kernel⟩
  case hco => exact rfl
  case hgen => exact rfl
  case hcell => exact rfl
  case hbind => exact fun w s X => all3 fun a0 _ a1 _ a2 _ => BindsTo.of_eq (by kernel_rfl)
  case hloc => exact all3 fun a0 _ a1 _ a2 _ => rfl
  case hv => exact all3 fun a0 i0 a1 i1 a2 i2 => ⟨⟨a0, rfl, i0⟩, ⟨a1, rfl, i1⟩, ⟨a2, rfl, i2⟩, trivial⟩
  intro c
  refine' BUF.unf .hd ?_
  intro g cl mr rw ls cs gs ge pt ti ci h
  refine' J.if1 ?_
  refine' JT.cmp ?_
  refine' J.attr ?_
  refine' J.name .hd ?_
  with_reducible refine' GB.undo .hd ?_
  refine' J.cnone ?_
  with_reducible refine' CmpT.isnN ?_
  refine' J.expr ?_
  refine' J.meth ?_
  refine' J.attr ?_
  refine' J.name .hd ?_
  with_reducible refine' GB.text .hd ?_
  refine' MetV.mk (a := OB _ 304 (gapF _ _ _)) (.tl .hd) (GAP.recv (by decide +kernel)) m304_insert ?_
  refine' J.args ?_
  refine' J.bin ?_
  refine' J.name (.tl .hd) ?_
  refine' J.cint ?_
  with_reducible refine' BinV.sub ?_
  refine' J.args1 ?_
  refine' J.name (.tl (.tl .hd)) ?_
  refine' Sp.use (gap_insert_sp (by assumption) (by assumption) (by assumption)) (.cons (.tl .hd) (.cons (.tl .hd) (.cons (.tl (.tl (.tl (.tl .hd)))) .nil))) (Nat.le_of_ble_eq_true rfl) ?_
  intro ⟨z19, g19⟩ h19; dsimp only at h19
  refine' J.asgA ?_
  refine' J.bin ?_
  refine' J.attr ?_
  refine' J.name .hd ?_
  with_reducible refine' GB.zv (.tl (.tl (.tl .hd))) ?_
  refine' J.callB (id := "len") ⟨by kernel_rfl, by kernel_rfl⟩ blt_len ?_
  refine' J.args1 ?_
  refine' J.name (.tl (.tl .hd)) ?_
  refine' JC.len (.tl (.tl .hd)) (by omega) ?_
  with_reducible refine' BinV.add ?_
  refine' J.name .hd ?_
  with_reducible refine' SB.zv (.tl (.tl (.tl .hd))) ?_
  refine' J.iflast ?_
  refine' JT.cmp ?_
  refine' J.attr ?_
  refine' J.name .hd ?_
  with_reducible refine' GB.point (.tl (.tl (.tl .hd))) ?_
  refine' J.name (.tl .hd) ?_
  with_reducible refine' CmpT.gt ?_ ?_
  intro h23
  refine' J.asgA ?_
  refine' J.bin ?_
  refine' J.attr ?_
  refine' J.name .hd ?_
  with_reducible refine' GB.point (.tl (.tl (.tl .hd))) ?_
  refine' J.callB (id := "len") ⟨by kernel_rfl, by kernel_rfl⟩ blt_len ?_
  refine' J.args1 ?_
  refine' J.name (.tl (.tl .hd)) ?_
  refine' JC.len (.tl (.tl .hd)) (by omega) ?_
  with_reducible refine' BinV.add ?_
  refine' J.name .hd ?_
  with_reducible refine' SB.point (.tl (.tl (.tl .hd))) ?_
  refine' J.nil ?_
  refine' EndQ.mk () trivial rfl ?_
  refine' BUF.ent (.cons (.tl (.tl (.tl .hd))) (.cons .hd (.cons .hd (.cons (.tl .hd) (.cons (.tl .hd) (.cons (.tl .hd) .nil)))))) (by assumption) (by omega) ?_
  with_reducible refine' Ent.sel .hd ?_
  exact Ent.nil
  intro h23
  refine' J.nil ?_
  refine' EndQ.mk () trivial rfl ?_
  refine' BUF.ent (.cons (.tl (.tl (.tl .hd))) (.cons .hd (.cons .hd (.cons (.tl .hd) (.cons (.tl .hd) (.cons (.tl .hd) .nil)))))) (by assumption) (by omega) ?_
  with_reducible refine' Ent.sel .hd ?_
  exact Ent.nil
theorem put_in_sp (hk : codes.length ≤ 100) : Sp (σ := Unit) (.ref 118) [.ref b, .int 1, .ref l, .bool false, .bool true] [BUF b [], LI l codes] 8 (fun _ => True) (fun _ => .none) (fun _ R => BUF b codes :: LI l codes :: R) := by
  have hz0 : ((([] : List Int).length : Nat) : Int) = 0 := rfl
  refine' Sp.intro (kb := 6) (nm := [st "buffer", st "place", st "codes", st "before_markers", st "is_point_behind"]) ⟨?ho, ?hcd, ?hS, ?hco, ?hgen, ?hcell⟩ (fun vs => [st "buffer", st "place", st "codes", st "before_markers", st "is_point_behind"].zip vs) [some (.ref b), some (.int 1), some (.ref l), some (.bool false), some (.bool true)] (fun _ _ => rfl) ?hbind ?hloc ?hv ?jb
  case ho => intro w; show (_ : _) = _; unfold KF; k_is
  case hcd => intro w; show (_ : _) = _; unfold KF; k_is
  case hS => exact ⟨rfl, by decide +kernel, by decide +kernel⟩
  case hco => exact rfl
  case hgen => exact rfl
  case hcell => exact rfl
  case hbind => exact fun w s X => all5 fun a0 _ a1 _ a2 _ a3 _ a4 _ => BindsTo.of_eq (by kernel_rfl)
  case hloc => exact all5 fun a0 _ a1 _ a2 _ a3 _ a4 _ => rfl
  case hv => exact all5 fun a0 i0 a1 i1 a2 i2 a3 i3 a4 i4 => ⟨⟨a0, rfl, i0⟩, ⟨a1, rfl, i1⟩, ⟨a2, rfl, i2⟩, ⟨a3, rfl, i3⟩, ⟨a4, rfl, i4⟩, trivial⟩
  intro c
  refine' J.expr ?_
  refine' J.callG ⟨by kernel_rfl, by kernel_rfl⟩ g_need_writable kg_need_writable ?_
  refine' J.args1 ?_
  refine' J.name .hd ?_
  refine' Sp.use (need_writable_sp) (.cons .hd .nil) (Nat.le_of_ble_eq_true rfl) ?_
  intro _ _
  refine' J.expr ?_
  refine' J.callG ⟨by kernel_rfl, by kernel_rfl⟩ g_reached kg_reached ?_
  refine' J.args ?_
  refine' J.name .hd ?_
  refine' J.args ?_
  refine' J.name (.tl .hd) ?_
  refine' J.args1 ?_
  refine' J.name (.tl .hd) ?_
  refine' Sp.use (reached_sp (by omega) (by omega)) (.cons .hd .nil) (Nat.le_of_ble_eq_true rfl) ?_
  intro q9 _
  refine' J.if1 ?_
  refine' JT.cmp ?_
  refine' J.callB (id := "len") ⟨by kernel_rfl, by kernel_rfl⟩ blt_len ?_
  refine' J.args1 ?_
  refine' J.name (.tl (.tl .hd)) ?_
  refine' JC.len (.tl (.tl .hd)) (by omega) ?_
  refine' J.cint ?_
  with_reducible refine' CmpT.eq ?_ ?_
  intro h11
  refine' J.ret0 ?_
  with_reducible refine' Seq.rt ?_
  refine' EndQ.mk () trivial rfl ?_
  rotate_left
  intro h11
  refine' J.expr ?_
  refine' J.callG ⟨by kernel_rfl, by kernel_rfl⟩ g_tell_ahead kg_tell_ahead ?_
  refine' J.args ?_
  refine' J.name .hd ?_
  refine' J.args ?_
  refine' J.name (.tl .hd) ?_
  refine' J.args1 ?_
  refine' J.name (.tl .hd) ?_
  refine' Sp.use (tell_ahead_sp) (.cons (.tl .hd) .nil) (Nat.le_of_ble_eq_true rfl) ?_
  intro _ _
  refine' J.expr ?_
  refine' J.callG ⟨by kernel_rfl, by kernel_rfl⟩ g_text_in kg_text_in ?_
  refine' J.args ?_
  refine' J.name .hd ?_
  refine' J.args ?_
  refine' J.name (.tl .hd) ?_
  refine' J.args1 ?_
  refine' J.name (.tl (.tl .hd)) ?_
  refine' Sp.use (text_in_sp (by assumption)) (.cons .hd (.cons (.tl .hd) .nil)) (Nat.le_of_ble_eq_true rfl) ?_
  intro _ _
  refine' J.if1 ?_
  refine' JT.plain ?_
  refine' J.name (.tl (.tl (.tl (.tl .hd)))) ?_
  with_reducible refine' TruT.tt ?_
  refine' J.asgA ?_
  refine' J.bin ?_
  refine' J.name (.tl .hd) ?_
  refine' J.callB (id := "len") ⟨by kernel_rfl, by kernel_rfl⟩ blt_len ?_
  refine' J.args1 ?_
  refine' J.name (.tl (.tl .hd)) ?_
  refine' JC.len (.tl .hd) (by omega) ?_
  with_reducible refine' BinV.add ?_
  refine' J.name .hd ?_
  refine' BUF.unfS .hd ?_; intro g16 cl16 mr16 rw16 ls16 cs16 gs16 ge16 pt16 ti16 ci16 hb16
  with_reducible refine' SB.point .hd ?_
  refine' J.nil ?_
  with_reducible refine' Seq.nx ?_
  refine' J.expr ?_
  refine' J.meth ?_
  refine' J.attr ?_
  refine' J.name .hd ?_
  with_reducible refine' GB.markers .hd ?_
  refine' MetV.mk (a := OB _ 374 [(st "rows", .ref _)]) (.tl (.tl (.tl .hd))) (MOB.recv (by decide +kernel)) m374_inserted ?_
  refine' J.args ?_
  refine' J.name (.tl .hd) ?_
  refine' J.args ?_
  refine' J.bin ?_
  refine' J.name (.tl .hd) ?_
  refine' J.callB (id := "len") ⟨by kernel_rfl, by kernel_rfl⟩ blt_len ?_
  refine' J.args1 ?_
  refine' J.name (.tl (.tl .hd)) ?_
  refine' JC.len (.tl (.tl (.tl (.tl (.tl (.tl .hd)))))) (by omega) ?_
  with_reducible refine' BinV.add ?_
  refine' J.args1 ?_
  refine' J.name (.tl (.tl (.tl .hd))) ?_
  refine' Sp.use (inserted_sp) (.cons (.tl (.tl (.tl .hd))) (.cons (.tl (.tl (.tl .hd))) .nil)) (Nat.le_of_ble_eq_true rfl) ?_
  intro _ _
  refine' J.expr ?_
  refine' J.callG ⟨by kernel_rfl, by kernel_rfl⟩ g_hung_in kg_hung_in ?_
  refine' J.args ?_
  refine' J.name .hd ?_
  refine' J.args ?_
  refine' J.name (.tl .hd) ?_
  refine' J.args ?_
  refine' J.callB (id := "len") ⟨by kernel_rfl, by kernel_rfl⟩ blt_len ?_
  refine' J.args1 ?_
  refine' J.name (.tl (.tl .hd)) ?_
  refine' JC.len (.tl (.tl (.tl (.tl (.tl (.tl .hd)))))) (by omega) ?_
  refine' J.args1 ?_
  refine' J.name (.tl (.tl (.tl .hd))) ?_
  refine' Sp.useE (hung_in_sp) (BUF.ent (.cons (.tl (.tl .hd)) (.cons (.tl (.tl .hd)) (.cons (.tl (.tl .hd)) (.cons .hd (.cons .hd (.cons .hd .nil)))))) (by assumption) rfl (Ent.refl _)) (Nat.le_of_ble_eq_true rfl) ?_
  intro _ _
  refine' J.expr ?_
  refine' J.callG ⟨by kernel_rfl, by kernel_rfl⟩ g_tell_behind kg_tell_behind ?_
  refine' J.args ?_
  refine' J.name .hd ?_
  refine' J.args ?_
  refine' J.name (.tl .hd) ?_
  refine' J.args ?_
  refine' J.bin ?_
  refine' J.name (.tl .hd) ?_
  refine' J.callB (id := "len") ⟨by kernel_rfl, by kernel_rfl⟩ blt_len ?_
  refine' J.args1 ?_
  refine' J.name (.tl (.tl .hd)) ?_
  refine' JC.len (.tl .hd) (by omega) ?_
  with_reducible refine' BinV.add ?_
  refine' J.args1 ?_
  refine' J.cint ?_
  refine' Sp.use (tell_behind_sp) (.cons .hd .nil) (Nat.le_of_ble_eq_true rfl) ?_
  intro _ _
  refine' J.nil ?_
  refine' EndQ.mk () trivial rfl ?_
  with_reducible refine' Ent.sel .hd ?_
  with_reducible refine' Ent.sel .hd ?_
  exact Ent.nil
  rename _ = 0 => h0
  have e : codes = [] := List.eq_nil_of_length_eq_zero (by omega)
  subst e
  with_reducible refine' Ent.sel (.tl .hd) ?_
  with_reducible refine' Ent.sel (.tl .hd) ?_
  exact Ent.nil
theorem insert_sp {g cl mr rw ls : Addr} (hk : codes.length ≤ 100) : Sp (σ := Unit) (.ref 126) [.ref b, .ref l] [OB b 515 (bufF g mr ls 1 1 1 1), OB g 304 (gapF cl 0 8), LI cl [0, 0, 0, 0, 0, 0, 0, 0], OB mr 374 [(st "rows", .ref rw)], DE rw, LI ls [], LI l codes] 10 (fun _ => True) (fun _ => .none) (fun _ R => BUF b codes :: LI l codes :: R) := by
  have hG : GOf [0, 0, 0, 0, 0, 0, 0, 0] 0 8 [] := ⟨by decide, by decide, by decide, rfl, by decide⟩
  refine' Sp.intro (kb := 8) (nm := [st "buffer", st "codes", st "before_markers"]) ⟨?ho, ?hcd, ?hS, ?hco, ?hgen, ?hcell⟩ (fun vs => [st "buffer", st "codes", st "before_markers"].zip (vs ++ [Value.bool false])) [some (.ref b), some (.ref l), some (.bool false)] (fun _ _ => rfl) ?hbind ?hloc ?hv ?jb
  case ho => intro w; show (_ : _) = _; unfold KF; k_is
  case hcd => intro w; show (_ : _) = _; unfold KF; k_is
  case hS => exact ⟨rfl, by decide +kernel, by decide +kernel⟩
  case hco => exact rfl
  case hgen => exact rfl
  case hcell => exact rfl
  case hbind => exact fun w s X => all2 fun a0 _ a1 _ => binds_K X rfl (by unfold KF; k_is) rfl rfl rfl
  case hloc => exact all2 fun a0 _ a1 _ => rfl
  case hv => exact all2 fun a0 i0 a1 i1 => ⟨⟨a0, rfl, i0⟩, ⟨a1, rfl, i1⟩, ⟨_, rfl, by first | exact rfl | exact ⟨_, rfl⟩⟩, trivial⟩
  intro c
  refine' J.expr ?_
  refine' J.callG ⟨by kernel_rfl, by kernel_rfl⟩ g_put_in kg_put_in ?_
  refine' J.args ?_
  refine' J.name .hd ?_
  refine' J.args ?_
  refine' J.attr ?_
  refine' J.name .hd ?_
  with_reducible refine' GB.point .hd ?_
  refine' J.args ?_
  refine' J.name (.tl .hd) ?_
  refine' J.args ?_
  refine' J.name (.tl (.tl .hd)) ?_
  refine' J.args1 ?_
  refine' J.cbool ?_
  refine' Sp.useE (put_in_sp (by assumption)) (BUF.ent (.cons .hd (.cons .hd (.cons .hd (.cons .hd (.cons .hd (.cons .hd .nil)))))) (by assumption) rfl (.sel .hd (Ent.refl _))) (Nat.le_of_ble_eq_true rfl) ?_
  intro _ _
  refine' J.nil ?_
  exact EndQ.mk () trivial rfl (Ent.refl _)
theorem law_buffer_sp (hk : codes.length ≤ 100) : Sp (σ := Addr) (.ref 550) [.ref l] [LI l codes] 12 (fun _ => True) (fun b => .ref b) (fun b R => BUF b codes :: LI l codes :: R) := by
  refine' Sp.intro (kb := 10) (nm := [st "codes", st "buffer"]) ⟨?ho, ?hcd, ?hS, ?hco, ?hgen, ?hcell⟩ (fun vs => [st "codes"].zip vs) [some (.ref l), none] (fun _ _ => rfl) ?hbind ?hloc ?hv ?jb
  case ho => intro w; show (_ : _) = _; unfold KF; k_is
  case hcd => intro w; show (_ : _) = _; unfold KF; k_is
  case hS => exact ⟨rfl, by decide +kernel, by decide +kernel⟩
  case hco => exact rfl
  case hgen => exact rfl
  case hcell => exact rfl
  case hbind => exact fun w s X => all1 fun a0 _ => BindsTo.of_eq (by kernel_rfl)
  case hloc => exact all1 fun a0 _ => rfl
  case hv => exact all1 fun a0 i0 => ⟨⟨a0, rfl, i0⟩, trivial⟩
  intro c
  refine' J.asg ?_
  refine' J.callG ⟨by kernel_rfl, by kernel_rfl⟩ g_Buffer kg_Buffer ?_
  refine' J.args ?_
  refine' J.cint ?_
  refine' J.args1 ?_
  refine' J.cstr ?_
  refine' Sp.use (buffer_sp) .nil (Nat.le_of_ble_eq_true rfl) ?_
  intro ⟨b5, g5, cl5, mr5, rw5, ls5⟩ _
  refine' StoN.mk (.tl .hd) ?_
  refine' J.expr ?_
  refine' J.callG ⟨by kernel_rfl, by kernel_rfl⟩ g_insert kg_insert ?_
  refine' J.args ?_
  refine' J.name (.tl .hd) ?_
  refine' J.args1 ?_
  refine' J.name .hd ?_
  refine' Sp.use (insert_sp (by assumption)) (.cons .hd (.cons .hd (.cons .hd (.cons .hd (.cons .hd (.cons .hd (.cons .hd .nil))))))) (Nat.le_of_ble_eq_true rfl) ?_
  intro _ _
  refine' J.ret ?_
  refine' J.name (.tl .hd) ?_
  exact EndQ.mk _ trivial rfl (Ent.refl _)
end
section
variable {D : Addr} {ds : List Int} {k : Int}
theorem law_draw_sp (hk : 1 ≤ k ∧ k ≤ 1000) (hlen : ds.length ≤ 100) : Sp (σ := Int × List Int) (.ref 524) [.ref D, .int k] [LI D ds] 11 (fun z => 0 ≤ z.1 ∧ z.1 < k ∧ z.2.length ≤ 100) (fun z => .int z.1) (fun z R => LI D z.2 :: R) := by
  refine' Sp.intro (kb := 9) (nm := [st "deck", st "many"]) ⟨?ho, ?hcd, ?hS, ?hco, ?hgen, ?hcell⟩ (fun vs => [st "deck", st "many"].zip vs) [some (.ref D), some (.int k)] (fun _ _ => rfl) ?hbind ?hloc ?hv ?jb
  case ho => intro w; show (_ : _) = _; unfold KF; k_is
  case hcd => intro w; show (_ : _) = _; unfold KF; k_is
  case hS => exact ⟨rfl, by decide +kernel, by decide +kernel⟩
  case hco => exact rfl
  case hgen => exact rfl
  case hcell => exact rfl
  case hbind => exact fun w s X => all2 fun a0 _ a1 _ => BindsTo.of_eq (by kernel_rfl)
  case hloc => exact all2 fun a0 _ a1 _ => rfl
  case hv => exact all2 fun a0 i0 a1 i1 => ⟨⟨a0, rfl, i0⟩, ⟨a1, rfl, i1⟩, trivial⟩
  intro c
  cases ds with
  | nil =>
    refine' J.ret ?_
    refine' J.ifexp ?_
    refine' JT.cmp ?_
    refine' J.name .hd ?_
    refine' J.list ?_
    refine' J.args0 ?_
    refine' ⟨[], rfl, Nat.le_of_ble_eq_true rfl, ?_⟩
    intro D8
    refine' CmpT.neL (.tl .hd) .hd (Nat.le_of_ble_eq_true rfl) ?_ ?_
    intro h9
    exact absurd rfl h9
    intro h9
    refine' J.cint ?_
    refine' EndQ.mk (0, []) ⟨by decide, by dsimp only; omega, by decide⟩ rfl ?_
    with_reducible refine' Ent.sel (.tl .hd) ?_
    exact Ent.nil
  | cons y ns =>
    rw [List.length_cons] at hlen
    refine' J.ret ?_
    refine' J.ifexp ?_
    refine' JT.cmp ?_
    refine' J.name .hd ?_
    refine' J.list ?_
    refine' J.args0 ?_
    refine' ⟨[], rfl, Nat.le_of_ble_eq_true rfl, ?_⟩
    intro D11
    refine' CmpT.neL (.tl .hd) .hd (Nat.le_of_ble_eq_true rfl) ?_ ?_
    intro h12
    refine' J.bin ?_
    refine' J.pop ?_
    refine' J.name .hd ?_
    with_reducible refine' ⟨⟨_, _, rfl, (.tl .hd)⟩, ?_⟩
    refine' J.cint ?_
    refine' PopV.mk (.tl .hd) (by omega) ?_
    refine' J.name (.tl .hd) ?_
    refine' BinV.mod (by omega) ?_
    intro x13
    intro h14
    intro h15
    rotate_left
    intro h12
    exact absurd h12 (List.cons_ne_nil _ _)
    rename _ < k => hlt
    rename 0 ≤ _ => hge
    refine' EndQ.mk (_, ns) ⟨hge, hlt, by dsimp only; omega⟩ rfl ?_
    with_reducible refine' Ent.sel (.tl .hd) ?_
    exact Ent.nil
end
def smallc (f : Bool) (c : Int) : Int := if f = true ∧ 65 ≤ c ∧ c ≤ 90 then c + 32 else c
theorem map_take_succ {codes : List Int} {g : Int → Int} {i : Nat} (h : i < codes.length) : (codes.take (i + 1)).map g = (codes.take i).map g ++ [g (codes.getD i 0)] := by
  rw [List.take_add_one, List.map_append, List.getD_eq_getElem?_getD, List.getElem?_eq_getElem h]
  rfl
theorem small_step {codes ms : List Int} {f : Bool} {i : Nat} {v : Int} (hi : i < codes.length) (hz : ms = (codes.take i).map (smallc f)) (hv : v = smallc f (codes.getD i 0)) : ms ++ [v] = (codes.take (i + 1)).map (smallc f) := by rw [map_take_succ hi, hz, hv]
section
variable {l : Addr} {codes : List Int} {f : Bool}
theorem law_small_sp (hlen : codes.length ≤ 100) : Sp (σ := Addr) (.ref 529) [.ref l, .bool f] [LI l codes] 6 (fun _ => True) (fun q => .ref q) (fun q R => LI q (codes.map (smallc f)) :: LI l codes :: R) := by
  refine' Sp.introK (kb := 4) (nm := [st "codes"]) (xc := st "is_folded") ⟨?ho, ?hcd, ?hS, ?hco, ?hgen, ?hce⟩ (fun vs => [st "codes", st "is_folded"].zip vs) [some (.ref l)] (.bool f) (fun _ _ => rfl) ?hbind ?hkind ?hv ?jb
  case ho => intro w; show (_ : _) = _; unfold KF; k_is
  case hcd => intro w; show (_ : _) = _; unfold KF; k_is
  case hS => exact ⟨rfl, by decide +kernel, by decide +kernel⟩
  case hco => exact rfl
  case hgen => exact rfl
  case hce => exact fun _ => rfl
  case hbind => exact fun w s X => all2 fun a0 _ a1 _ => BindsTo.of_eq (by kernel_rfl)
  case hkind => exact all2 fun a0 _ a1 _ => rfl
  case hv => exact all2 fun a0 i0 a1 i1 => ⟨⟨⟨a0, rfl, i0⟩, trivial⟩, a1, rfl, i1⟩
  intro c cc hcl
  refine' J.ret ?_
  refine' J.compL (cl := [(st "is_folded", cc)]) (by show closureFor _ (envX _ _ _ _ _ c.cl) = _; rw [hcl]; rfl) (by decide +kernel) rfl (by decide +kernel) rfl ?_
  intro m
  refine' J.name .hd ?_
  refine' ⟨_, _, _, Unit, fun _ => [CE cc (.bool f)], fun i ms _ => ms = (codes.take i).map (smallc f), (), rfl, .tl .hd, by omega, rfl, Ent.refl _, ?_, ?_⟩
  · intro m i ms z C oC hi hz
    dsimp only
    refine' J.ifexp ?_
    refine' JT.and ?_
    refine' JT.plain ?_
    refine' J.nameVC (.tl .hd) (by rfl) (by kernel_rfl) (by kernel_rfl) ?_
    with_reducible refine' TruT.bool ?_ ?_
    intro h17
    refine' JT.and ?_
    refine' JT.chain ?_
    refine' J.cint ?_
    refine' J.nameV .hd (by kernel_rfl) (by kernel_rfl) ?_
    with_reducible refine' CmpT.le ?_ ?_
    intro h18
    refine' J.cint ?_
    with_reducible refine' CmpT.le ?_ ?_
    intro h19
    refine' JT.and0 ?_
    refine' J.bin ?_
    refine' J.nameV .hd (by kernel_rfl) (by kernel_rfl) ?_
    refine' J.cint ?_
    with_reducible refine' BinV.add ?_
    rotate_left
    intro h19
    refine' J.nameV .hd (by kernel_rfl) (by kernel_rfl) ?_
    rotate_left
    intro h18
    refine' J.nameV .hd (by kernel_rfl) (by kernel_rfl) ?_
    rotate_left
    intro h17
    refine' J.nameV .hd (by kernel_rfl) (by kernel_rfl) ?_
    rotate_left
    · exact ⟨_, (), rfl, small_step hi hz (if_pos ⟨by assumption, by assumption, by assumption⟩).symm, Ent.refl _⟩
    · exact ⟨_, (), rfl, small_step hi hz (if_neg fun q => absurd q.2.2 (by assumption)).symm, Ent.refl _⟩
    · exact ⟨_, (), rfl, small_step hi hz (if_neg fun q => absurd q.2.1 (by assumption)).symm, Ent.refl _⟩
    · exact ⟨_, (), rfl, small_step hi hz (if_neg fun q => by rename f = false => hf; rw [hf] at q; cases q.1).symm, Ent.refl _⟩
  · intro ms z hz D
    rw [List.take_length] at hz
    subst hz
    refine' EndQ.mk D trivial rfl ?_
    with_reducible refine' Ent.sel .hd ?_
    with_reducible refine' Ent.sel .hd ?_
    exact Ent.nil
end
theorem eqc_small {f : Bool} {a b : Int} (ha : 0 ≤ a ∧ a < 128) (hb : 0 ≤ b ∧ b < 128) : eqc f a b = true ↔ smallc f a = smallc f b := by
  unfold eqc smallc downc
  cases f
  · simp
  · simp only [Bool.or_eq_true, beq_iff_eq, Bool.true_and, true_and]
    (repeat' split) <;> omega
theorem slice_fits {codes own : List Int} {f : Bool} {pl : Int} (hcr : ∀ c ∈ codes, 0 ≤ c ∧ c < 128) (hor : ∀ c ∈ own, 0 ≤ c ∧ c < 128) (h0 : 0 ≤ pl) (h1 : pl + (own.length : Int) ≤ (codes.length : Int)) :
    (List.take ((pl + (own.length : Int)).toNat - pl.toNat) (List.drop pl.toNat (List.map (smallc f) codes)) = List.map (smallc f) own) ↔ fitsB codes own f (pl + 1) = true := by
  have e : (pl + (own.length : Int)).toNat - pl.toNat = own.length := by omega
  have ec : ∀ j : Nat, (hj : j < own.length) → codeAt codes (pl + 1 + (j : Int)) = codes[pl.toNat + j]'(by omega) := fun j hj => by
    rw [codeAt_in (by omega) (by omega), show (pl + 1 + (j : Int) - 1).toNat = pl.toNat + j by omega, List.getD_eq_getElem?_getD, List.getElem?_eq_getElem (by omega)]
    rfl
  have eo : ∀ j : Nat, (hj : j < own.length) → own.getD j 0 = own[j] := fun j hj => by rw [List.getD_eq_getElem?_getD, List.getElem?_eq_getElem hj]; rfl
  rw [e, fitsB_iff]
  constructor
  · intro h j hj
    have h2 := congrArg (fun l => l[j]?) h
    simp only [List.getElem?_take_of_lt hj, List.getElem?_drop, List.getElem?_map, List.getElem?_eq_getElem (show pl.toNat + j < codes.length by omega), List.getElem?_eq_getElem hj, Option.map_some, Option.some.injEq] at h2
    rw [ec j hj, eo j hj]
    exact (eqc_small (hcr _ (List.getElem_mem _)) (hor _ (List.getElem_mem _))).mpr h2
  · intro h
    apply List.ext_getElem?
    intro j
    by_cases hj : j < own.length
    · have h2 := h j hj
      rw [ec j hj, eo j hj] at h2
      simp only [List.getElem?_take_of_lt hj, List.getElem?_drop, List.getElem?_map, List.getElem?_eq_getElem (show pl.toNat + j < codes.length by omega), List.getElem?_eq_getElem hj, Option.map_some, Option.some.injEq]
      exact (eqc_small (hcr _ (List.getElem_mem _)) (hor _ (List.getElem_mem _))).mp h2
    · rw [List.getElem?_eq_none (by rw [List.length_take]; omega), List.getElem?_eq_none (by rw [List.length_map]; omega)]
def lcP (codes own : List Int) (f : Bool) (z : Int × Int) : Prop := 0 ≤ z.2 ∧ z.2 ≤ (codes.length : Int) ∧ z.1 + cnt (fitsB codes own f) own.length ((codes.length : Int) + 1) (z.2 + 1) = cnt (fitsB codes own f) own.length ((codes.length : Int) + 1) 1
section
variable {codes own : List Int} {f : Bool} {mn pl : Int}
theorem lc_end (how : 1 ≤ own.length) (h : lcP codes own f (mn, pl)) (hc : ¬ pl + (own.length : Int) ≤ (codes.length : Int)) : mn = cnt (fitsB codes own f) own.length ((codes.length : Int) + 1) 1 := by
  obtain ⟨h1, h2, h3⟩ := h
  dsimp only at h1 h2 h3
  rw [← h3, cnt_out (by omega) (by omega)]; omega
theorem lc_hit (how : 1 ≤ own.length) (hcr : ∀ c ∈ codes, 0 ≤ c ∧ c < 128) (hor : ∀ c ∈ own, 0 ≤ c ∧ c < 128) (h : lcP codes own f (mn, pl)) (hc : pl + (own.length : Int) ≤ (codes.length : Int)) (hx : List.take ((pl + (own.length : Int)).toNat - pl.toNat) (List.drop pl.toNat (List.map (smallc f) codes)) = List.map (smallc f) own) : lcP codes own f (mn + 1, pl + own.length) := by
  obtain ⟨h1, h2, h3⟩ := h
  dsimp only at h1 h2 h3
  have hg := (slice_fits hcr hor h1 hc).mp hx
  have hc1 := cnt_hit (g := fitsB codes own f) (k := own.length) (hi := (codes.length : Int) + 1) (p := pl + 1) (by omega) (by omega) hg
  have e1 : pl + 1 + (own.length : Int) = pl + (own.length : Int) + 1 := by omega
  rw [e1] at hc1
  exact ⟨by dsimp only; omega, by dsimp only; omega, by dsimp only; omega⟩
theorem lc_miss (how : 1 ≤ own.length) (hcr : ∀ c ∈ codes, 0 ≤ c ∧ c < 128) (hor : ∀ c ∈ own, 0 ≤ c ∧ c < 128) (h : lcP codes own f (mn, pl)) (hc : pl + (own.length : Int) ≤ (codes.length : Int)) (hx : ¬ List.take ((pl + (own.length : Int)).toNat - pl.toNat) (List.drop pl.toNat (List.map (smallc f) codes)) = List.map (smallc f) own) : lcP codes own f (mn, pl + 1) := by
  obtain ⟨h1, h2, h3⟩ := h
  dsimp only at h1 h2 h3
  have hg : fitsB codes own f (pl + 1) = false := by rw [Bool.eq_false_iff]; exact fun q => hx ((slice_fits hcr hor h1 hc).mpr q)
  have hc1 := cnt_miss (g := fitsB codes own f) (k := own.length) (hi := (codes.length : Int) + 1) (p := pl + 1) (by omega) hg
  exact ⟨by dsimp only; omega, by dsimp only; omega, by dsimp only; omega⟩
end
section
variable {l o : Addr} {codes own : List Int} {f : Bool}
theorem law_count_sp (hlen : codes.length ≤ 100) (how : 1 ≤ own.length) (hol : own.length ≤ 10) (hcr : ∀ c ∈ codes, 0 ≤ c ∧ c < 128) (hor : ∀ c ∈ own, 0 ≤ c ∧ c < 128) : Sp (σ := Unit) (.ref 536) [.ref l, .ref o, .bool f] [LI l codes, LI o own] 11 (fun _ => True) (fun _ => .int (cnt (fitsB codes own f) own.length ((codes.length : Int) + 1) 1)) (fun _ R => LI l codes :: LI o own :: R) := by
  have hm1 : (codes.map (smallc f)).length = codes.length := List.length_map ..
  have hm2 : (own.map (smallc f)).length = own.length := List.length_map ..
  refine' Sp.intro (kb := 9) (nm := [st "codes", st "own", st "is_folded", st "many", st "place", st "plain_here", st "wanted"]) ⟨?ho, ?hcd, ?hS, ?hco, ?hgen, ?hcell⟩ (fun vs => [st "codes", st "own", st "is_folded"].zip vs) [some (.ref l), some (.ref o), some (.bool f), none, none, none, none] (fun _ _ => rfl) ?hbind ?hloc ?hv ?jb
  case ho => intro w; show (_ : _) = _; unfold KF; k_is
  case hcd => intro w; show (_ : _) = _; unfold KF; k_is
  case hS => exact ⟨rfl, by decide +kernel, by decide +kernel⟩
  case hco => exact rfl
  case hgen => exact rfl
  case hcell => exact rfl
  case hbind => exact fun w s X => all3 fun a0 _ a1 _ a2 _ => BindsTo.of_eq (by kernel_rfl)
  case hloc => exact all3 fun a0 _ a1 _ a2 _ => rfl
  case hv => exact all3 fun a0 i0 a1 i1 a2 i2 => ⟨⟨a0, rfl, i0⟩, ⟨a1, rfl, i1⟩, ⟨a2, rfl, i2⟩, trivial⟩
  intro c
  refine' J.asgT4 ?_
  refine' J.tuple ?_
  refine' J.args ?_
  refine' J.cint ?_
  refine' J.args ?_
  refine' J.cint ?_
  refine' J.args ?_
  refine' J.callG ⟨by kernel_rfl, by kernel_rfl⟩ g_law_small kg_law_small ?_
  refine' J.args ?_
  refine' J.name .hd ?_
  refine' J.args1 ?_
  refine' J.name (.tl (.tl .hd)) ?_
  refine' Sp.use (law_small_sp (by assumption)) (.cons .hd .nil) (Nat.le_of_ble_eq_true rfl) ?_
  intro q14 _
  refine' J.args1 ?_
  refine' J.callG ⟨by kernel_rfl, by kernel_rfl⟩ g_law_small kg_law_small ?_
  refine' J.args ?_
  refine' J.name (.tl .hd) ?_
  refine' J.args1 ?_
  refine' J.name (.tl (.tl .hd)) ?_
  refine' Sp.use (law_small_sp (by omega)) (.cons (.tl (.tl .hd)) .nil) (Nat.le_of_ble_eq_true rfl) ?_
  intro q16 _
  refine ⟨by first | exact Nat.le_of_ble_eq_true rfl | omega, ?_⟩
  intro D18
  refine' UnpT.mk4 .hd (.tl (.tl (.tl .hd))) (.tl (.tl (.tl (.tl .hd)))) (.tl (.tl (.tl (.tl (.tl .hd))))) (.tl (.tl (.tl (.tl (.tl (.tl .hd)))))) ?_
  refine' J.whil (σ := Int × Int) (fun z => [some (.ref l), some (.ref o), some (.bool f), some (.int z.1), some (.int z.2), some (.ref q14), some (.ref q16)]) (fun _ => [LI q16 (List.map (smallc f) own), LI o own, LI q14 (List.map (smallc f) codes), LI l codes]) (lcP codes own f) (fun z => ((codes.length : Int) + 1 - z.2).toNat) (0, 0) ⟨Int.le_refl _, Int.natCast_nonneg _, Int.zero_add _⟩ (Le.refl _) (Ent.refl _) ?_
  rintro ⟨mn, pl⟩ hz
  obtain ⟨h1, h2, -⟩ := id hz
  dsimp only at h1 h2 ⊢
  refine' JT.cmp ?_
  refine' J.bin ?_
  refine' J.name (.tl (.tl (.tl (.tl .hd)))) ?_
  refine' J.callB (id := "len") ⟨by kernel_rfl, by kernel_rfl⟩ blt_len ?_
  refine' J.args1 ?_
  refine' J.name (.tl .hd) ?_
  refine' JC.len (.tl .hd) (by omega) ?_
  with_reducible refine' BinV.add ?_
  refine' J.callB (id := "len") ⟨by kernel_rfl, by kernel_rfl⟩ blt_len ?_
  refine' J.args1 ?_
  refine' J.name .hd ?_
  refine' JC.len (.tl (.tl (.tl .hd))) (by omega) ?_
  with_reducible refine' CmpT.le ?_ ?_
  intro h24
  refine' J.iflast ?_
  refine' JT.cmp ?_
  refine' J.slice ?_
  refine' J.name (.tl (.tl (.tl (.tl (.tl .hd))))) ?_
  refine' JP.some ?_
  refine' J.name (.tl (.tl (.tl (.tl .hd)))) ?_
  refine' PInt.mk ?_
  refine' JP.some ?_
  refine' J.bin ?_
  refine' J.name (.tl (.tl (.tl (.tl .hd)))) ?_
  refine' J.callB (id := "len") ⟨by kernel_rfl, by kernel_rfl⟩ blt_len ?_
  refine' J.args1 ?_
  refine' J.name (.tl .hd) ?_
  refine' JC.len (.tl .hd) (by omega) ?_
  with_reducible refine' BinV.add ?_
  refine' PInt.mk ?_
  refine' SliV.mk (.tl (.tl .hd)) (by omega) (.run (by omega) (by omega)) ?_
  intro D25
  refine' J.name (.tl (.tl (.tl (.tl (.tl (.tl .hd)))))) ?_
  refine' CmpT.eqL .hd (.tl .hd) (Nat.le_of_ble_eq_true rfl) ?_ ?_
  intro h26
  refine' J.asgW2 (x1 := st "many") (x2 := st "place") ?_
  refine' J.tuple ?_
  refine' J.args ?_
  refine' J.bin ?_
  refine' J.name (.tl (.tl (.tl .hd))) ?_
  refine' J.cint ?_
  with_reducible refine' BinV.add ?_
  refine' J.args1 ?_
  refine' J.bin ?_
  refine' J.name (.tl (.tl (.tl (.tl .hd)))) ?_
  refine' J.callB (id := "len") ⟨by kernel_rfl, by kernel_rfl⟩ blt_len ?_
  refine' J.args1 ?_
  refine' J.name (.tl .hd) ?_
  refine' JC.len (.tl (.tl .hd)) (by omega) ?_
  with_reducible refine' BinV.add ?_
  refine ⟨by first | exact Nat.le_of_ble_eq_true rfl | omega, ?_⟩
  intro D27
  refine' UnpW2.mk .hd (.tl (.tl (.tl (.tl .hd)))) (.tl (.tl (.tl .hd))) ?_
  refine' J.nil ?_
  rotate_left
  intro h26
  refine' J.asg ?_
  refine' J.bin ?_
  refine' J.name (.tl (.tl (.tl (.tl .hd)))) ?_
  refine' J.cint ?_
  with_reducible refine' BinV.add ?_
  refine' StoN.mk (.tl (.tl (.tl (.tl .hd)))) ?_
  refine' J.nil ?_
  rotate_left
  intro h24
  refine' J.ret ?_
  refine' J.name (.tl (.tl (.tl .hd))) ?_
  refine' EndQ.mk () trivial ?_ ?_
  refine' FlV.int ?_
  rotate_left
  with_reducible refine' Ent.sel (.tl (.tl (.tl .hd))) ?_
  with_reducible refine' Ent.sel (.tl .hd) ?_
  exact Ent.nil
  · refine' WQ.nx (mn + 1, pl + own.length) (lc_hit how hcr hor hz (by assumption) (by assumption)) (by dsimp only; omega) (Le.refl _) ?_
    with_reducible refine' Ent.sel (.tl .hd) ?_
    with_reducible refine' Ent.sel (.tl .hd) ?_
    with_reducible refine' Ent.sel (.tl .hd) ?_
    with_reducible refine' Ent.sel (.tl .hd) ?_
    exact Ent.nil
  · refine' WQ.nx (mn, pl + 1) (lc_miss how hcr hor hz (by assumption) (by assumption)) (by dsimp only; omega) (Le.refl _) ?_
    with_reducible refine' Ent.sel (.tl .hd) ?_
    with_reducible refine' Ent.sel (.tl .hd) ?_
    with_reducible refine' Ent.sel (.tl .hd) ?_
    with_reducible refine' Ent.sel (.tl .hd) ?_
    exact Ent.nil
  · exact lc_end how hz (by assumption)
end
theorem J.val {k : Nat} {c : Cx} {S : Fn} {vals : Vals} {H : List Asn} {t : Sem Value} {Q : QE} (P : SV → Prop) (h : JE k c S vals H t fun u v1 H1 => P u ∧ v1 = vals ∧ H1 = H) (q : ∀ u, P u → Q u vals H) : JE k c S vals H t Q := J.mono h fun u v1 H1 ⟨p, e1, e2⟩ => by
  subst e1 e2
  exact q u p
theorem JT.keep {k : Nat} {c : Cx} {S : Fn} {vals : Vals} {H : List Asn} {t : Sem Bool} {Qt Qf : QT} (A : Prop) (h : JT k c S vals H t (fun v1 H1 => A ∧ v1 = vals ∧ H1 = H) (fun v1 H1 => ¬ A ∧ v1 = vals ∧ H1 = H)) (h1 : A → Qt vals H) (h2 : ¬ A → Qf vals H) : JT k c S vals H t Qt Qf := J.mono h fun b v1 H1 q => by
  cases b with
  | true =>
    obtain ⟨p, e1, e2⟩ := q
    subst e1 e2
    exact h1 p
  | false =>
    obtain ⟨p, e1, e2⟩ := q
    subst e1 e2
    exact h2 p
abbrev LZ := Addr × List Int × Int × Nat
def llP (kp : List Int → Bool) (lo hi : Int) (codes : List Int) (i : Nat) (z : LZ) : Prop := z.2.1.length ≤ z.2.2.2 ∧ z.2.2.2 ≤ i ∧ z.2.2.2 ≤ codes.length ∧ (i ≤ codes.length ∨ z.2.2.2 = codes.length) ∧ (∀ j, z.2.2.2 ≤ j → j < i → codes.getD j 0 ≠ 10) ∧
  (z.2.1 ++ (GT kp lo hi (z.2.2.2 : Int) (codes.drop z.2.2.2)).1, z.2.2.1 + (GT kp lo hi (z.2.2.2 : Int) (codes.drop z.2.2.2)).2) = GT kp lo hi 0 codes
section
variable {kp : List Int → Bool} {lo hi : Int} {codes found : List Int} {i s : Nat} {a b : Addr} {mn : Int}
theorem ll_first : llP kp lo hi codes 0 (a, [], 0, 0) := ⟨Nat.le_refl _, Nat.le_refl _, Nat.zero_le _, .inl (Nat.zero_le _), fun j _ h => absurd h (Nat.not_lt_zero _), by
  show ([] ++ (GT kp lo hi ((0 : Nat) : Int) (codes.drop 0)).1, 0 + (GT kp lo hi ((0 : Nat) : Int) (codes.drop 0)).2) = _
  rw [List.nil_append, Int.zero_add]; rfl⟩
theorem ll_skip {z : LZ} (h : llP kp lo hi codes i z) (h1 : (i : Int) < (codes.length : Int)) (h2 : ¬ codes.getD i 0 = 10) : llP kp lo hi codes (i + 1) z := by
  obtain ⟨a1, a2, a3, a4, a5, a6⟩ := h
  refine ⟨a1, Nat.le_succ_of_le a2, a3, .inl (by omega), fun j j1 j2 => ?_, a6⟩
  by_cases e : j = i
  · rw [e]; exact h2
  · exact a5 j j1 (by omega)
theorem ll_done {z : LZ} (h : llP kp lo hi codes (codes.length + 1) z) : (z.2.1, z.2.2.1) = GT kp lo hi 0 codes := by
  obtain ⟨a1, a2, a3, a4, a5, a6⟩ := h
  have e : z.2.2.2 = codes.length := by omega
  rw [e, List.drop_length, GT_nil, List.append_nil, Int.add_zero] at a6
  exact a6
/-- the row that ends at i -/
theorem ll_row {n : Nat} (h : llP kp lo hi codes i (a, found, mn, s)) (hi' : i < codes.length + 1) (h2 : ¬ ((i : Int) < (codes.length : Int) ∧ ¬ codes.getD i 0 = 10)) (ha : min ((i : Int) + 1) (codes.length : Int) = (n : Int)) :
    (((lo ≤ (s : Int) ∧ (n : Int) ≤ hi ∧ (s : Int) < (n : Int)) ∧ kp ((codes.drop s).take (i - s)) = false) → llP kp lo hi codes (i + 1) (a, found, mn + 1, n)) ∧
    (¬ ((lo ≤ (s : Int) ∧ (n : Int) ≤ hi ∧ (s : Int) < (n : Int)) ∧ kp ((codes.drop s).take (i - s)) = false) → ∀ b, llP kp lo hi codes (i + 1) (b, found ++ (codes.drop s).take (n - s), mn, n)) := by
  obtain ⟨a1, a2, a3, a4, a5, a6⟩ := h
  dsimp only at a1 a2 a3 a4 a5 a6
  have hil : i ≤ codes.length := by omega
  have hget : ∀ j, (codes.drop s).getD j 0 = codes.getD (s + j) 0 := fun j => by simp only [List.getD_eq_getElem?_getD, List.getElem?_drop]
  have hdl : (codes.drop s).length = codes.length - s := List.length_drop ..
  have hE : rowE (codes.drop s) = i - s := rowE_eq _ _ (by omega) (fun j hj => by rw [hget]; exact a5 _ (by omega) (by omega)) (by
    by_cases c : (i : Int) < (codes.length : Int)
    · right
      rw [hget, show s + (i - s) = i by omega]
      exact Classical.not_not.mp fun q => h2 ⟨c, q⟩
    · left; omega)
  have hA : rowA (codes.drop s) = n - s := by unfold rowA; rw [hE]; omega
  have hs2 : ((s : Nat) : Int) + ((rowA (codes.drop s) : Nat) : Int) = (n : Int) := by rw [hA]; omega
  have hd2 : (codes.drop s).drop (rowA (codes.drop s)) = codes.drop n := by rw [List.drop_drop, hA]; congr 1; omega
  have base : ∀ (b : Addr) (fn : List Int) (m2 : Int), fn.length ≤ n → (fn ++ (GT kp lo hi (n : Int) (codes.drop n)).1, m2 + (GT kp lo hi (n : Int) (codes.drop n)).2) = GT kp lo hi 0 codes → llP kp lo hi codes (i + 1) (b, fn, m2, n) := fun b fn m2 q1 q2 =>
    ⟨q1, by dsimp only; omega, by dsimp only; omega, by dsimp only; omega, fun j j1 j2 => by
      dsimp only at j1
      have hj : codes.length ≤ j := by omega
      rw [List.getD_eq_getElem?_getD, List.getElem?_eq_none hj]
      decide, q2⟩
  refine ⟨fun q => ?_, fun q b => ?_⟩
  · have hne : codes.drop s ≠ [] := fun e => by rw [e] at hdl; simp at hdl; omega
    rw [GT_step hne, hE, hs2, hd2, if_pos ⟨q.1.1, q.1.2.1, q.2⟩] at a6
    refine base a found (mn + 1) (by omega) ?_
    rw [← a6]
    congr 1
    show _ + 1 + _ = _ + (_ + 1)
    omega
  · refine base _ _ _ ?_ ?_
    · rw [List.length_append, List.length_take]; omega
    · by_cases hne : codes.drop s = []
      · have e1 : s = codes.length := by rw [hne] at hdl; simp at hdl; omega
        rw [hne, GT_nil] at a6
        rw [hne, show n = codes.length by omega, List.drop_length, GT_nil, List.take_nil, List.append_nil]
        exact a6
      · have hp := rowA_pos hne
        rw [GT_step hne, hE, hs2, hd2, if_neg (fun r => q ⟨⟨r.1, r.2.1, by omega⟩, r.2.2⟩)] at a6
        rw [← a6, hA, List.append_assoc]
end
section
variable {l o : Addr} {codes own : List Int} {f kept : Bool} {low high : Int}
theorem mem_slice {codes : List Int} {a b : Nat} {c : Int} (h : c ∈ (codes.drop a).take b) : c ∈ codes := List.mem_of_mem_drop (List.mem_of_mem_take h)
theorem law_count_sl {a b : Nat} (hlen : codes.length ≤ 100) (how : 1 ≤ own.length) (hol : own.length ≤ 10) (hcr : ∀ c ∈ codes, 0 ≤ c ∧ c < 128) (hor : ∀ c ∈ own, 0 ≤ c ∧ c < 128) : Sp (σ := Unit) (.ref 536) [.ref l, .ref o, .bool f] [LI l ((codes.drop a).take b), LI o own] 11 (fun _ => True) (fun _ => .int (cnt (fitsB ((codes.drop a).take b) own f) own.length ((((codes.drop a).take b).length : Int) + 1) 1)) (fun _ R => LI l ((codes.drop a).take b) :: LI o own :: R) :=
  law_count_sp (Nat.le_trans slen hlen) how hol (fun c hc => hcr c (mem_slice hc)) hor
theorem law_left_sp (hlen : codes.length ≤ 100) (how : 1 ≤ own.length) (hol : own.length ≤ 10) (hcr : ∀ c ∈ codes, 0 ≤ c ∧ c < 128) (hor : ∀ c ∈ own, 0 ≤ c ∧ c < 128) : Sp (σ := Addr × Addr) (.ref 543) [.ref l, .int low, .int high, .ref o, .bool f, .bool kept] [LI l codes, LI o own] 13 (fun _ => True) (fun z => .ref z.1) (fun z R => TP z.1 [.ref z.2, .int (GT (fun row => mt own f row == kept) (low - 1) (high - 1) 0 codes).2] :: LI z.2 (GT (fun row => mt own f row == kept) (low - 1) (high - 1) 0 codes).1 :: LI l codes :: LI o own :: R) := by
  refine' Sp.intro (kb := 11) (nm := [st "codes", st "low", st "high", st "own", st "is_folded", st "is_kept_here", st "found", st "many", st "start", st "place", st "line", st "after_here", st "is_within"]) ⟨?ho, ?hcd, ?hS, ?hco, ?hgen, ?hcell⟩ (fun vs => [st "codes", st "low", st "high", st "own", st "is_folded", st "is_kept_here"].zip vs) [some (.ref l), some (.int low), some (.int high), some (.ref o), some (.bool f), some (.bool kept), none, none, none, none, none, none, none] (fun _ _ => rfl) ?hbind ?hloc ?hv ?jb
  case ho => intro w; show (_ : _) = _; unfold KF; k_is
  case hcd => intro w; show (_ : _) = _; unfold KF; k_is
  case hS => exact ⟨rfl, by decide +kernel, by decide +kernel⟩
  case hco => exact rfl
  case hgen => exact rfl
  case hcell => exact rfl
  case hbind => exact fun w s X => all6 fun a0 _ a1 _ a2 _ a3 _ a4 _ a5 _ => BindsTo.of_eq (by kernel_rfl)
  case hloc => exact all6 fun a0 _ a1 _ a2 _ a3 _ a4 _ a5 _ => rfl
  case hv => exact all6 fun a0 i0 a1 i1 a2 i2 a3 i3 a4 i4 a5 i5 => ⟨⟨a0, rfl, i0⟩, ⟨a1, rfl, i1⟩, ⟨a2, rfl, i2⟩, ⟨a3, rfl, i3⟩, ⟨a4, rfl, i4⟩, ⟨a5, rfl, i5⟩, trivial⟩
  intro c
  refine' J.asgW3 (x1 := st "found") (x2 := st "many") (x3 := st "start") ?_
  refine' J.tuple ?_
  refine' J.args ?_
  refine' J.list ?_
  refine' J.args0 ?_
  refine' ⟨[], rfl, Nat.le_of_ble_eq_true rfl, ?_⟩
  intro D15
  refine' J.args ?_
  refine' J.cint ?_
  refine' J.args1 ?_
  refine' J.cint ?_
  refine ⟨by first | exact Nat.le_of_ble_eq_true rfl | omega, ?_⟩
  intro D16
  refine' UnpW3.mk .hd (.tl (.tl (.tl (.tl (.tl (.tl (.tl (.tl .hd)))))))) (.tl (.tl (.tl (.tl (.tl (.tl (.tl .hd))))))) (.tl (.tl (.tl (.tl (.tl (.tl .hd)))))) ?_
  refine' J.forR (.tail _ (.tail _ (.tail _ (.tail _ (.tail _ (.tail _ (.tail _ (.tail _ (.tail _ (.head _)))))))))) ?_
  refine' J.callT (T := "range") ⟨by kernel_rfl, by kernel_rfl⟩ blt_range ?_
  refine' J.args1 ?_
  refine' J.bin ?_
  refine' J.callB (id := "len") ⟨by kernel_rfl, by kernel_rfl⟩ blt_len ?_
  refine' J.args1 ?_
  refine' J.name .hd ?_
  refine' JC.len (.tl .hd) (by omega) ?_
  refine' J.cint ?_
  with_reducible refine' BinV.add ?_
  with_reducible refine' JC.range1 ?_
  intro D17
  refine' RanV.mk (σ := LZ) (fun z => [some (.ref l), some (.int low), some (.int high), some (.ref o), some (.bool f), some (.bool kept), some (.ref z.1), some (.int z.2.2.1), some (.int (z.2.2.2 : Int)), none, none, none, none]) (fun z => [LI z.1 z.2.1, LI l codes, LI o own]) (llP (fun row => mt own f row == kept) (low - 1) (high - 1) codes) (_, [], 0, 0) .hd ⟨by omega, by omega, by omega, by omega⟩ ll_first (Le.refl _) ?_ ?_ ?_
  · with_reducible refine' Ent.sel .hd ?_
    with_reducible refine' Ent.sel .hd ?_
    with_reducible refine' Ent.sel .hd ?_
    exact Ent.nil
  · rintro i ⟨fa, fnd, mn, s⟩ hi hz
    refine' ⟨_, .tl (.tl (.tl (.tl (.tl (.tl (.tl (.tl (.tl .hd)))))))), ?_⟩
    rw [Int.zero_add]
    dsimp only
    have hi' : i < codes.length + 1 := by omega
    obtain ⟨a1, a2, a3, -⟩ := id hz
    dsimp only at a1 a2 a3
    refine' J.if1 ?_
    refine' JT.keep ((i : Int) < (codes.length : Int) ∧ ¬ codes.getD i 0 = 10) ?_ ?_ ?_
    · refine' JT.and ?_
      refine' JT.cmp ?_
      refine' J.name (.tl (.tl (.tl (.tl (.tl (.tl (.tl (.tl (.tl .hd))))))))) ?_
      refine' J.callB (id := "len") ⟨by kernel_rfl, by kernel_rfl⟩ blt_len ?_
      refine' J.args1 ?_
      refine' J.name .hd ?_
      refine' JC.len (.tl .hd) (by omega) ?_
      with_reducible refine' CmpT.lt ?_ ?_
      intro h29
      refine' JT.and ?_
      refine' JT.cmp ?_
      refine' J.sub ?_
      refine' J.name .hd ?_
      refine' J.name (.tl (.tl (.tl (.tl (.tl (.tl (.tl (.tl (.tl .hd))))))))) ?_
      refine' SubV.li (.tl .hd) (by omega) (by omega) (by omega) ?_
      refine' J.cint ?_
      with_reducible refine' CmpT.ne ?_ ?_
      intro h30
      refine' JT.and0 ?_
      rotate_left
      intro h30
      rotate_left
      intro h29
      rotate_left
      · exact ⟨⟨by assumption, by assumption⟩, rfl, rfl⟩
      · exact ⟨fun q => absurd (by assumption) q.2, rfl, rfl⟩
      · exact ⟨fun q => absurd q.1 (by assumption), rfl, rfl⟩
    · intro hc
      refine' J.cont ?_
      with_reducible refine' Seq.ct ?_
      refine' FQ.ct (fa, fnd, mn, s) (ll_skip hz hc.1 hc.2) ?_ (Ent.refl _)
      exact (.keep (.keep (.keep (.keep (.keep (.keep (.keep (.keep (.keep (.drop (.drop (.drop (.drop .nil)))))))))))))
    · intro hc
      obtain ⟨n, hn⟩ : ∃ n : Nat, min ((i : Int) + 1) (codes.length : Int) = (n : Int) := ⟨(min ((i : Int) + 1) (codes.length : Int)).toNat, by omega⟩
      obtain ⟨r1, r2⟩ := ll_row hz hi' hc hn
      refine' J.asgW2 (x1 := st "line") (x2 := st "after_here") ?_
      refine' J.tuple ?_
      refine' J.args ?_
      refine' J.slice ?_
      refine' J.name .hd ?_
      refine' JP.some ?_
      refine' J.name (.tl (.tl (.tl (.tl (.tl (.tl (.tl (.tl .hd)))))))) ?_
      refine' PInt.mk ?_
      refine' JP.some ?_
      refine' J.name (.tl (.tl (.tl (.tl (.tl (.tl (.tl (.tl (.tl .hd))))))))) ?_
      refine' PInt.mk ?_
      refine' SliV.mk (.tl .hd) (by omega) (.run (by omega) (by omega)) ?_
      intro D34
      refine' J.args1 ?_
      refine' J.callB (id := "min") ⟨by kernel_rfl, by kernel_rfl⟩ blt_min ?_
      refine' J.args ?_
      refine' J.bin ?_
      refine' J.name (.tl (.tl (.tl (.tl (.tl (.tl (.tl (.tl (.tl .hd))))))))) ?_
      refine' J.cint ?_
      with_reducible refine' BinV.add ?_
      refine' J.args1 ?_
      refine' J.callB (id := "len") ⟨by kernel_rfl, by kernel_rfl⟩ blt_len ?_
      refine' J.args1 ?_
      refine' J.name .hd ?_
      refine' JC.len (.tl (.tl .hd)) (by omega) ?_
      with_reducible refine' JC.minI ?_
      refine ⟨by first | exact Nat.le_of_ble_eq_true rfl | omega, ?_⟩
      intro D35
      refine' UnpW2.mk .hd (.tl (.tl (.tl (.tl (.tl (.tl (.tl (.tl (.tl (.tl (.tl .hd))))))))))) (.tl (.tl (.tl (.tl (.tl (.tl (.tl (.tl (.tl (.tl .hd)))))))))) ?_
      refine' J.asg ?_
      rw [hn]
      refine' J.val (fun u => ∃ w : Bool, u = .bool w ∧ (w = true ↔ low - 1 ≤ (s : Int) ∧ (n : Int) ≤ high - 1 ∧ (s : Int) < (n : Int))) ?_ ?_
      · refine' J.and2 ?_
        refine' J.cmp ?_
        refine' J.bin ?_
        refine' J.name (.tl .hd) ?_
        refine' J.cint ?_
        with_reducible refine' BinV.sub ?_
        refine' J.name (.tl (.tl (.tl (.tl (.tl (.tl (.tl (.tl .hd)))))))) ?_
        with_reducible refine' CmpV.le ?_
        with_reducible refine' TruT.dec ?_ ?_
        intro h36
        refine' J.and2 ?_
        refine' J.cmp ?_
        refine' J.name (.tl (.tl (.tl (.tl (.tl (.tl (.tl (.tl (.tl (.tl (.tl .hd))))))))))) ?_
        refine' J.bin ?_
        refine' J.name (.tl (.tl .hd)) ?_
        refine' J.cint ?_
        with_reducible refine' BinV.sub ?_
        with_reducible refine' CmpV.le ?_
        with_reducible refine' TruT.dec ?_ ?_
        intro h37
        refine' J.and1 ?_
        refine' J.cmp ?_
        refine' J.name (.tl (.tl (.tl (.tl (.tl (.tl (.tl (.tl .hd)))))))) ?_
        refine' J.name (.tl (.tl (.tl (.tl (.tl (.tl (.tl (.tl (.tl (.tl (.tl .hd))))))))))) ?_
        with_reducible refine' CmpV.lt ?_
        rotate_left
        intro h37
        rotate_left
        intro h36
        rotate_left
        all_goals exact ⟨⟨_, rfl, by rw [decide_eq_true_eq]; omega⟩, rfl, rfl⟩
      · rintro _ ⟨w, rfl, hw⟩
        refine' StoN.mk (.tl (.tl (.tl (.tl (.tl (.tl (.tl (.tl (.tl (.tl (.tl (.tl .hd)))))))))))) ?_
        refine' J.if_ ?_
        refine' JT.and ?_
        refine' JT.plain ?_
        refine' J.name (.tl (.tl (.tl (.tl (.tl (.tl (.tl (.tl (.tl (.tl (.tl (.tl .hd)))))))))))) ?_
        with_reducible refine' TruT.bool ?_ ?_
        intro h40
        refine' JT.and ?_
        refine' JT.cmp ?_
        refine' J.cmp ?_
        refine' J.callG ⟨by kernel_rfl, by kernel_rfl⟩ g_law_count kg_law_count ?_
        refine' J.args ?_
        refine' J.name (.tl (.tl (.tl (.tl (.tl (.tl (.tl (.tl (.tl (.tl .hd)))))))))) ?_
        refine' J.args ?_
        refine' J.name (.tl (.tl (.tl .hd))) ?_
        refine' J.args1 ?_
        refine' J.name (.tl (.tl (.tl (.tl .hd)))) ?_
        refine' Sp.use (law_count_sl (by assumption) (by assumption) (by assumption) (by assumption) (by assumption)) (.cons .hd (.cons (.tl (.tl .hd)) .nil)) (Nat.le_of_ble_eq_true rfl) ?_
        intro _ _
        refine' J.cint ?_
        with_reducible refine' CmpV.gt ?_
        refine' J.name (.tl (.tl (.tl (.tl (.tl .hd))))) ?_
        with_reducible refine' CmpT.neB ?_ ?_
        intro h43
        refine' JT.and0 ?_
        refine' J.asg ?_
        refine' J.bin ?_
        refine' J.name (.tl (.tl (.tl (.tl (.tl (.tl (.tl .hd))))))) ?_
        refine' J.cint ?_
        with_reducible refine' BinV.add ?_
        refine' StoN.mk (.tl (.tl (.tl (.tl (.tl (.tl (.tl .hd))))))) ?_
        refine' J.nil ?_
        with_reducible refine' Seq.nx ?_
        refine' J.asg ?_
        refine' J.name (.tl (.tl (.tl (.tl (.tl (.tl (.tl (.tl (.tl (.tl (.tl .hd))))))))))) ?_
        refine' StoN.mk (.tl (.tl (.tl (.tl (.tl (.tl (.tl (.tl .hd)))))))) ?_
        refine' J.nil ?_
        rotate_left
        intro h43
        refine' J.asg ?_
        refine' J.bin ?_
        refine' J.name (.tl (.tl (.tl (.tl (.tl (.tl .hd)))))) ?_
        refine' J.slice ?_
        refine' J.name .hd ?_
        refine' JP.some ?_
        refine' J.name (.tl (.tl (.tl (.tl (.tl (.tl (.tl (.tl .hd)))))))) ?_
        refine' PInt.mk ?_
        refine' JP.some ?_
        refine' J.name (.tl (.tl (.tl (.tl (.tl (.tl (.tl (.tl (.tl (.tl (.tl .hd))))))))))) ?_
        refine' PInt.mk ?_
        refine' SliV.mk (.tl (.tl (.tl .hd))) (by omega) (.run (by omega) (by omega)) ?_
        intro D44
        refine' BinV.addL (.tl (.tl (.tl .hd))) .hd (by simp only [List.length_append, List.length_take, List.length_drop, List.length_cons, List.length_nil]; omega) ?_
        intro D45
        refine' StoN.mk (.tl (.tl (.tl (.tl (.tl (.tl .hd)))))) ?_
        refine' J.nil ?_
        with_reducible refine' Seq.nx ?_
        refine' J.asg ?_
        refine' J.name (.tl (.tl (.tl (.tl (.tl (.tl (.tl (.tl (.tl (.tl (.tl .hd))))))))))) ?_
        refine' StoN.mk (.tl (.tl (.tl (.tl (.tl (.tl (.tl (.tl .hd)))))))) ?_
        refine' J.nil ?_
        rotate_left
        intro h40
        refine' J.asg ?_
        refine' J.bin ?_
        refine' J.name (.tl (.tl (.tl (.tl (.tl (.tl .hd)))))) ?_
        refine' J.slice ?_
        refine' J.name .hd ?_
        refine' JP.some ?_
        refine' J.name (.tl (.tl (.tl (.tl (.tl (.tl (.tl (.tl .hd)))))))) ?_
        refine' PInt.mk ?_
        refine' JP.some ?_
        refine' J.name (.tl (.tl (.tl (.tl (.tl (.tl (.tl (.tl (.tl (.tl (.tl .hd))))))))))) ?_
        refine' PInt.mk ?_
        refine' SliV.mk (.tl (.tl .hd)) (by omega) (.run (by omega) (by omega)) ?_
        intro D41
        refine' BinV.addL (.tl (.tl .hd)) .hd (by simp only [List.length_append, List.length_take, List.length_drop, List.length_cons, List.length_nil]; omega) ?_
        intro D42
        refine' StoN.mk (.tl (.tl (.tl (.tl (.tl (.tl .hd)))))) ?_
        refine' J.nil ?_
        with_reducible refine' Seq.nx ?_
        refine' J.asg ?_
        refine' J.name (.tl (.tl (.tl (.tl (.tl (.tl (.tl (.tl (.tl (.tl (.tl .hd))))))))))) ?_
        refine' StoN.mk (.tl (.tl (.tl (.tl (.tl (.tl (.tl (.tl .hd)))))))) ?_
        refine' J.nil ?_
        rotate_left
        · refine' FQ.nx (fa, fnd, mn + 1, n) (r1 ⟨hw.mp (by assumption), beq_eq_false_iff_ne.mpr (by assumption)⟩) ?_ ?_
          exact (.keep (.keep (.keep (.keep (.keep (.keep (.keep (.keep (.keep (.drop (.drop (.drop (.drop .nil)))))))))))))
          with_reducible refine' Ent.sel (.tl (.tl .hd)) ?_
          with_reducible refine' Ent.sel (.tl (.tl .hd)) ?_
          with_reducible refine' Ent.sel (.tl .hd) ?_
          exact Ent.nil
        · exact FQ.nx (_, fnd ++ (codes.drop s).take (n - s), mn, n) (r2 (fun q => absurd (by assumption) (beq_eq_false_iff_ne.mp q.2)) _) (.keep (.keep (.keep (.keep (.keep (.keep (.keep (.keep (.keep (.drop (.drop (.drop (.drop .nil))))))))))))) (Ent.li .hd rfl (Ent.sel (.tl (.tl (.tl (.tl .hd)))) (Ent.sel (.tl (.tl .hd)) Ent.nil)))
        · rename w = false => hf
          exact FQ.nx (_, fnd ++ (codes.drop s).take (n - s), mn, n) (r2 (fun q => nomatch hf.symm.trans (hw.mpr q.1)) _) (.keep (.keep (.keep (.keep (.keep (.keep (.keep (.keep (.keep (.drop (.drop (.drop (.drop .nil))))))))))))) (Ent.li .hd rfl (Ent.sel (.tl (.tl (.tl .hd))) (Ent.sel (.tl (.tl (.tl .hd))) Ent.nil)))
  · rintro ⟨fa, fnd, mn, s⟩ hz
    have e0 : ((codes.length : Int) + 1 - 0).toNat = codes.length + 1 := by omega
    rw [e0] at hz
    have e := ll_done hz
    dsimp only at e ⊢
    rw [← e]
    with_reducible refine' Seq.nx ?_
    refine' J.ret ?_
    refine' J.tuple ?_
    refine' J.args ?_
    refine' J.name (.tl (.tl (.tl (.tl (.tl (.tl .hd)))))) ?_
    refine' J.args1 ?_
    refine' J.name (.tl (.tl (.tl (.tl (.tl (.tl (.tl .hd))))))) ?_
    refine ⟨by first | exact Nat.le_of_ble_eq_true rfl | omega, ?_⟩
    intro D26
    exact EndQ.mk (_, _) trivial rfl (Ent.refl _)
end
theorem cntG_shift {g g' : Int → Bool} {k hi d : Int} : ∀ (n : Nat) (p : Int), 1 ≤ k → (∀ i, p ≤ i → i + k ≤ hi → g i = g' (i - d)) → cntG g k hi n p = cntG g' k (hi - d) n (p - d)
  | 0, _, _, _ => rfl
  | n + 1, p, hk, h => by
    simp only [cntG]
    by_cases c : p + k ≤ hi
    · rw [if_pos c, if_pos (show p - d + k ≤ hi - d by omega), ← h p (Int.le_refl _) c, cntG_shift n (p + k) hk (fun i a b => h i (by omega) b), cntG_shift n (p + 1) hk (fun i a b => h i (by omega) b), show p + k - d = p - d + k by omega, show p + 1 - d = p - d + 1 by omega]
    · rw [if_neg c, if_neg (show ¬ p - d + k ≤ hi - d by omega)]
theorem cnt_shift {g g' : Int → Bool} {k hi d p : Int} (hk : 1 ≤ k) (h : ∀ i, p ≤ i → i + k ≤ hi → g i = g' (i - d)) : cnt g k hi p = cnt g' k (hi - d) (p - d) := by
  unfold cnt
  rw [cntG_shift _ _ hk h, show hi - d + 1 - (p - d) = hi + 1 - p by omega]
theorem cnt_slice {codes own : List Int} {f : Bool} {lo hi : Int} (h1 : 1 ≤ lo) (h2 : lo ≤ hi) (h3 : hi ≤ (codes.length : Int) + 1) (how : 1 ≤ own.length) : cnt (fitsB codes own f) own.length hi lo = cnt (fitsB ((codes.drop (lo - 1).toNat).take ((hi - 1).toNat - (lo - 1).toNat)) own f) own.length ((((codes.drop (lo - 1).toNat).take ((hi - 1).toNat - (lo - 1).toNat)).length : Int) + 1) 1 := by
  have hl : ((((codes.drop (lo - 1).toNat).take ((hi - 1).toNat - (lo - 1).toNat)).length : Nat) : Int) = hi - lo := by
    rw [List.length_take, List.length_drop]; omega
  rw [hl, cnt_shift (g' := fitsB ((codes.drop (lo - 1).toNat).take ((hi - 1).toNat - (lo - 1).toNat)) own f) (d := lo - 1) (by omega) (fun i a b => ?_), show hi - (lo - 1) = hi - lo + 1 by omega, show lo - (lo - 1) = 1 by omega]
  rw [Bool.eq_iff_iff, fitsB_iff, fitsB_iff]
  have e : ∀ j : Nat, j < own.length → codeAt ((codes.drop (lo - 1).toNat).take ((hi - 1).toNat - (lo - 1).toNat)) (i - (lo - 1) + (j : Int)) = codeAt codes (i + (j : Int)) := fun j hj => by
    rw [codeAt_in (by omega) (by omega), codeAt_in (by omega) (by omega)]
    simp only [List.getD_eq_getElem?_getD]
    rw [List.getElem?_take_of_lt (by omega), List.getElem?_drop]
    congr 2
    omega
  exact ⟨fun h j hj => by rw [e j hj]; exact h j hj, fun h j hj => by rw [← e j hj]; exact h j hj⟩
def okc (c : Int) : Prop := c = 97 ∨ c = 98 ∨ c = 65 ∨ c = 99 ∨ c = 10
theorem okc.r {c : Int} (h : okc c) : 0 ≤ c ∧ c < 128 := by unfold okc at h; omega
theorem pick_ok {v : Int} (h0 : 0 ≤ v) (h1 : v < 4) : okc ([97, 98, 65, 99].getD v.toNat 0) := by
  obtain ⟨n, rfl⟩ := Int.eq_ofNat_of_zero_le h0
  match n, h1 with
  | 0, _ => exact .inl rfl
  | 1, _ => exact .inr (.inl rfl)
  | 2, _ => exact .inr (.inr (.inl rfl))
  | 3, _ => exact .inr (.inr (.inr (.inl rfl)))
  | n + 4, h => omega
theorem okc_app {ms : List Int} {b : Int} (h : ∀ c ∈ ms, okc c) (hb : okc b) : ∀ c ∈ ms ++ [b], okc c := fun c hc => by
  rcases List.mem_append.mp hc with q | q
  · exact h c q
  · rw [List.mem_singleton.mp q]; exact hb
structure OwnOk (own : List Int) : Prop where
  h1 : 1 ≤ own.length
  h2 : own.length ≤ 10
  h3 : ∀ c ∈ own, 0 ≤ c ∧ c < 128
  h4 : ∀ f j, j < own.length → eqc f 10 (own.getD j 0) = false
theorem OwnOk.of {own : List Int} (h1 : 1 ≤ own.length) (h2 : own.length ≤ 10) (h : ∀ c ∈ own, c = 97 ∨ c = 98 ∨ c = 66) : OwnOk own := ⟨h1, h2, fun c hc => by have := h c hc; omega, fun f j hj => by
  have hm : own.getD j 0 ∈ own := by rw [List.getD_eq_getElem?_getD, List.getElem?_eq_getElem hj]; exact List.getElem_mem hj
  generalize own.getD j 0 = x at hm
  have hx := h x hm
  refine eqc_no ?_ (.inr ?_)
  · omega
  · unfold downc
    rcases hx with rfl | rfl | rfl <;> decide⟩
theorem own0 : OwnOk [97] := .of (by decide) (by decide) (by decide)
theorem own1 : OwnOk [97, 97] := .of (by decide) (by decide) (by decide)
theorem own2 : OwnOk [98, 97] := .of (by decide) (by decide) (by decide)
theorem own3 : OwnOk [66] := .of (by decide) (by decide) (by decide)
theorem whole_slice (t : List Int) : List.take (((t.length : Int) + 1 - 1).toNat - ((1 : Int) - 1).toNat) (List.drop ((1 : Int) - 1).toNat t) = t := by
  have e : ((1 : Int) - 1).toNat = 0 := rfl
  rw [e, List.drop_zero, List.take_of_length_le (by omega)]
abbrev lawN : List Str := [st "script", st "codes", st "turn", st "own", st "is_folded", st "one", st "other", st "low", st "high", st "buffer", st "is_kept_here", st "left", st "many", st "found"]
/-- what is shown of the law's body -/
def LawPJ (qual : Str) (scope : Scope) (body : List Stmt) : Prop := Fn.Ok ⟨qual, scope, lawN, none⟩ ∧ ∀ (c : Cx) (cc l : Addr) (vs : List Value) (ns : List Int), c.cl = [(st "deck", cc)] → c.h₀.IsList l (List.toArray vs) → IntsAre vs ns → ns.length ≤ 63 →
  JF 14 c ⟨qual, scope, lawN, none⟩ [some (.ref l), none, none, none, none, none, none, none, none, none, none, none, none, none] [CE0 cc] (execs body (c.env ⟨qual, scope, lawN, none⟩)) (fun fl _ _ => fl = .ret (.bool true))
set_option maxHeartbeats 8000000
theorem law_walk : ∀ w (name' qual' : Str) (params' : Arguments) (body' : List Stmt) (scope' : Scope) (dV' kV' doc' pm' cdv' ct' oc' : Value) (an' od' : Option Addr) (osl' : Array (Option Value)), List.lookup 555 (KF w) = some ⟨oc', od', .func (fnOf name' qual' params' body' scope' dV' kV' doc' pm' an' cdv' ct'), osl'⟩ → LawPJ qual' scope' body' := by
  refine' lawIntro (f := 555) ?ho ⟨?hS, ?jb⟩
  case ho => intro w; show (_ : _) = _; unfold KF; k_is
  case hS => exact ⟨rfl, by decide +kernel, by decide +kernel⟩
  intro c cc l vs ns hcl hb hi hn
  refine' J.asgWc (x1 := st "deck") (x2 := st "codes") (cc := cc) (by rw [hcl]; rfl) (by kernel_rfl) ?_
  refine' J.tuple ?_
  refine' J.args ?_
  refine' J.compL (cl := []) (by rfl) (by decide +kernel) rfl (by decide +kernel) rfl ?_
  intro m
  refine' J.sliceB ?_
  refine' J.name .hd ?_
  refine' JP.none ?_
  refine' JP.some ?_
  refine' J.cint ?_
  refine' PInt.mk ?_
  refine' ⟨l, vs, ns, _, rfl, hb, hi, by omega, .upto (by decide), ?_⟩
  intro D
  refine' ⟨_, _, _, Unit, fun _ => [CE0 cc], fun i ms _ => ms.length = i, (), rfl, .hd, Nat.le_trans (List.length_take_le _ _) (by decide), rfl, Ent.refl _, ?_, ?_⟩
  · intro m i ms z C oC hi2 hz
    dsimp only
    refine' J.callBV (id := "abs") (by kernel_rfl) (by kernel_rfl) blt_abs ?_
    refine' J.args1 ?_
    refine' J.nameV .hd (by kernel_rfl) (by kernel_rfl) ?_
    with_reducible refine' JC.absI ?_
    intro x20
    exact ⟨_, (), rfl, by rw [List.length_append, hz]; rfl, Ent.refl _⟩
  intro dk _ hdk D1
  have hdl : dk.length ≤ 100 := by
    rw [hdk]; exact Nat.le_trans (List.length_take_le _ _) (by decide)
  clear hdk hi hb hn
  refine' J.args1 ?_
  refine' J.list ?_
  refine' J.args0 ?_
  refine' ⟨[], rfl, Nat.le_of_ble_eq_true rfl, ?_⟩
  intro D17
  refine ⟨by first | exact Nat.le_of_ble_eq_true rfl | omega, ?_⟩
  intro D18
  refine' ⟨_, _, _, _, _, _, rfl, .hd, .tl (.tl (.tl .hd)), .tl .hd, ?_⟩
  refine' J.forR (.tail _ (.tail _ (.head _))) ?_
  refine' J.callT (T := "range") ⟨by kernel_rfl, by kernel_rfl⟩ blt_range ?_
  refine' J.args1 ?_
  refine' J.bin ?_
  refine' J.cint ?_
  refine' J.callG ⟨by kernel_rfl, by kernel_rfl⟩ g_law_draw kg_law_draw ?_
  refine' J.args ?_
  refine' J.nameC (.tl (.tl (.tl .hd))) (by rw [hcl]; rfl) (by kernel_rfl) ?_
  refine' J.args1 ?_
  refine' J.cint ?_
  refine' Sp.use (law_draw_sp (by omega) (by assumption)) (.cons (.tl .hd) .nil) (Nat.le_of_ble_eq_true rfl) ?_
  intro ⟨v19, d19⟩ ⟨h19, i19, j19⟩; dsimp only at h19 i19 j19 ⊢
  with_reducible refine' BinV.add ?_
  with_reducible refine' JC.range1 ?_
  intro D26
  refine' RanV.mk (σ := Addr × List Int × List Int) (fun z => [some (.ref l), some (.ref z.1), none, none, none, none, none, none, none, none, none, none, none, none]) (fun z => [CE cc (.ref D1), LI D1 z.2.2, LI z.1 z.2.1]) (fun i z => z.2.1.length ≤ 5 * i ∧ (∀ c ∈ z.2.1, okc c) ∧ z.2.2.length ≤ 100) (_, [], _) .hd ⟨by omega, by omega, by omega, by omega⟩ ⟨Nat.le_refl _, (fun _ h => nomatch h), by assumption⟩ (Le.refl _) ?_ ?_ ?_
  · with_reducible refine' Ent.sel (.tl (.tl (.tl .hd))) ?_
    with_reducible refine' Ent.sel .hd ?_
    with_reducible refine' Ent.sel .hd ?_
    exact Ent.nil
  · rintro i ⟨ca, cs, ds⟩ hi ⟨p1, p2, p3⟩
    dsimp only at p1 p2 p3
    refine' ⟨_, .tl (.tl .hd), ?_⟩
    dsimp only
    refine' J.asg ?_
    refine' J.bin ?_
    refine' J.bin ?_
    refine' J.name (.tl .hd) ?_
    refine' J.compR (cl := [(st "deck", cc)]) (by show closureFor _ (envX _ _ _ _ _ c.cl) = _; rw [hcl]; rfl) (by decide +kernel) rfl (by decide +kernel) rfl ?_
    intro m
    refine' J.callT (T := "range") ⟨by kernel_rfl, by kernel_rfl⟩ blt_range ?_
    refine' J.args1 ?_
    refine' J.callG ⟨by kernel_rfl, by kernel_rfl⟩ g_law_draw kg_law_draw ?_
    refine' J.args ?_
    refine' J.nameC .hd (by rw [hcl]; rfl) (by kernel_rfl) ?_
    refine' J.args1 ?_
    refine' J.cint ?_
    refine' Sp.use (law_draw_sp (by omega) (by assumption)) (.cons (.tl .hd) .nil) (Nat.le_of_ble_eq_true rfl) ?_
    intro ⟨v36, d36⟩ ⟨h36, i36, j36⟩; dsimp only at h36 i36 j36 ⊢
    with_reducible refine' JC.range1 ?_
    intro D43
    refine' ⟨_, _, _, _, List Int, fun d => [CE cc (.ref D1), LI D1 d, LI ca cs], fun i ms d => ms.length = i ∧ (∀ c ∈ ms, okc c) ∧ d.length ≤ 100, _, rfl, .hd, ⟨by omega, by omega, by omega, by omega⟩, ⟨rfl, (fun _ h => nomatch h), by assumption⟩, ?_, ?_, ?_⟩
    · with_reducible refine' Ent.sel (.tl .hd) ?_
      with_reducible refine' Ent.sel .hd ?_
      with_reducible refine' Ent.sel .hd ?_
      exact Ent.nil
    · rintro m i ms d C oC hi2 ⟨h1, h2, h3⟩
      dsimp only at h1 h2 h3 ⊢
      refine' J.sub ?_
      refine' J.list ?_
      refine' J.args ?_
      refine' J.cint ?_
      refine' J.args ?_
      refine' J.cint ?_
      refine' J.args ?_
      refine' J.cint ?_
      refine' J.args1 ?_
      refine' J.cint ?_
      refine' ⟨[_, _, _, _], rfl, Nat.le_of_ble_eq_true rfl, ?_⟩
      intro D54
      refine' J.callGV (by kernel_rfl) (by kernel_rfl) g_law_draw kg_law_draw ?_
      refine' J.args ?_
      refine' J.nameVC (.tl (.tl .hd)) (by rfl) (by kernel_rfl) (by kernel_rfl) ?_
      refine' J.args1 ?_
      refine' J.cint ?_
      refine' Sp.use (law_draw_sp (by omega) (by assumption)) (.cons (.tl (.tl (.tl .hd))) .nil) (Nat.le_of_ble_eq_true rfl) ?_
      intro ⟨v55, d55⟩ ⟨h55, i55, j55⟩; dsimp only at h55 i55 j55 ⊢
      refine' SubV.li (.tl .hd) (by omega) (by show _ < (4 : Int); omega) (Nat.le_of_ble_eq_true rfl) ?_
      exact ⟨_, _, rfl, ⟨by rw [List.length_append, h1]; rfl, okc_app h2 (pick_ok (by assumption) (by assumption)), by assumption⟩, (Ent.sel (.tl (.tl .hd)) (Ent.sel (.tl (.tl .hd)) (Ent.sel .hd (Ent.sel (.tl .hd) Ent.nil))))⟩
    · rintro ms d ⟨h1, h2, h3⟩ D2
      dsimp only at h1 h2 h3 ⊢
      refine' BinV.addL (.tl (.tl (.tl .hd))) .hd (by omega) ?_
      intro D50
      refine' J.list ?_
      refine' J.args1 ?_
      refine' J.cint ?_
      refine' ⟨[_], rfl, Nat.le_of_ble_eq_true rfl, ?_⟩
      intro D51
      refine' BinV.addL (.tl .hd) .hd (by simp only [List.length_append, List.length_take, List.length_drop, List.length_cons, List.length_nil]; omega) ?_
      intro D52
      refine' StoN.mk (.tl .hd) ?_
      refine' J.nil ?_
      exact FQ.nx (_, cs ++ ms ++ [10], d) ⟨by simp only [List.length_append, List.length_singleton]; omega, okc_app (fun c hc => (List.mem_append.mp hc).elim (p2 c) (h2 c)) (.inr (.inr (.inr (.inr rfl)))), h3⟩ (.keep (.keep (.drop (.keep (.keep (.keep (.keep (.keep (.keep (.keep (.keep (.keep (.keep (.keep .nil)))))))))))))) (Ent.sel (.tl (.tl (.tl (.tl .hd)))) (Ent.sel (.tl (.tl (.tl (.tl .hd)))) (Ent.sel .hd Ent.nil)))
  · rintro ⟨ca, cs, ds⟩ ⟨p1, p2, p3⟩
    dsimp only at p1 p2 p3
    have p4 : cs.length ≤ 25 := by omega
    clear p1
    with_reducible refine' Seq.nx ?_
    refine' J.asg ?_
    refine' J.cut (σ := Addr × List Int × List Int) (fun z => z.2.1.length ≤ 25 ∧ (∀ c ∈ z.2.1, okc c) ∧ z.2.2.length ≤ 100) (fun z => .ref z.1) (fun z => [CE cc (.ref D1), LI D1 z.2.2, LI z.1 z.2.1]) ?_ (fun _ _ _ _ en q => StoN.ent en q) ?_
    · dsimp only
      refine' J.ifexp ?_
      refine' JT.cmp ?_
      refine' J.callG ⟨by kernel_rfl, by kernel_rfl⟩ g_law_draw kg_law_draw ?_
      refine' J.args ?_
      refine' J.nameC .hd (by rw [hcl]; rfl) (by kernel_rfl) ?_
      refine' J.args1 ?_
      refine' J.cint ?_
      refine' Sp.use (law_draw_sp (by omega) (by assumption)) (.cons (.tl .hd) .nil) (Nat.le_of_ble_eq_true rfl) ?_
      intro ⟨v34, d34⟩ ⟨h34, i34, j34⟩; dsimp only at h34 i34 j34 ⊢
      refine' J.cint ?_
      with_reducible refine' CmpT.eq ?_ ?_
      intro h41
      refine' J.slice ?_
      refine' J.name (.tl .hd) ?_
      refine' JP.none ?_
      refine' JP.some ?_
      refine' J.neg ?_
      refine' PInt.mk ?_
      refine' SliV.mk (.tl (.tl .hd)) (by omega) (.neg (by omega)) ?_
      intro D42
      rotate_left
      intro h41
      refine' J.name (.tl .hd) ?_
      rotate_left
      · exact ⟨(_, cs.take _, _), ⟨Nat.le_trans (List.length_take_le' _ _) p4, fun c hc => p2 c (List.mem_of_mem_take hc), by assumption⟩, rfl, rfl, (Ent.sel (.tl (.tl .hd)) (Ent.sel (.tl .hd) (Ent.sel .hd Ent.nil)))⟩
      · exact ⟨(_, _, _), ⟨p4, p2, by assumption⟩, rfl, rfl, (Ent.sel (.tl .hd) (Ent.sel .hd (Ent.sel .hd Ent.nil)))⟩
    clear p2 p3 p4
    rintro ⟨ca, cs, ds⟩ ⟨p1, p2, p3⟩
    dsimp only at p1 p2 p3 ⊢
    refine' StoN.mk (.tl .hd) ?_
    refine' J.asgW2 (x1 := st "own") (x2 := st "is_folded") ?_
    refine' J.tuple ?_
    refine' J.args ?_
    refine' J.cut (σ := Addr × List Int × List Int) (fun z => OwnOk z.2.1 ∧ z.2.2.length ≤ 100) (fun z => .ref z.1) (fun z => [CE cc (.ref D1), LI D1 z.2.2, LI z.1 z.2.1, LI ca cs]) ?_ (fun _ _ _ _ en q => J.ent en q) ?_
    · refine' J.sub ?_
      refine' J.listS ?_
      refine' J.args ?_
      refine' J.list ?_
      refine' J.args1 ?_
      refine' J.cint ?_
      refine' ⟨[_], rfl, Nat.le_of_ble_eq_true rfl, ?_⟩
      intro D36
      refine' J.args ?_
      refine' J.list ?_
      refine' J.args ?_
      refine' J.cint ?_
      refine' J.args1 ?_
      refine' J.cint ?_
      refine' ⟨[_, _], rfl, Nat.le_of_ble_eq_true rfl, ?_⟩
      intro D37
      refine' J.args ?_
      refine' J.list ?_
      refine' J.args ?_
      refine' J.cint ?_
      refine' J.args1 ?_
      refine' J.cint ?_
      refine' ⟨[_, _], rfl, Nat.le_of_ble_eq_true rfl, ?_⟩
      intro D38
      refine' J.args1 ?_
      refine' J.list ?_
      refine' J.args1 ?_
      refine' J.cint ?_
      refine' ⟨[_], rfl, Nat.le_of_ble_eq_true rfl, ?_⟩
      intro D39
      refine ⟨by first | exact Nat.le_of_ble_eq_true rfl | omega, ?_⟩
      intro D40
      refine' J.callG ⟨by kernel_rfl, by kernel_rfl⟩ g_law_draw kg_law_draw ?_
      refine' J.args ?_
      refine' J.nameC (.tl (.tl (.tl (.tl (.tl .hd))))) (by rw [hcl]; rfl) (by kernel_rfl) ?_
      refine' J.args1 ?_
      refine' J.cint ?_
      refine' Sp.use (law_draw_sp (by omega) (by assumption)) (.cons (.tl (.tl (.tl (.tl (.tl (.tl .hd)))))) .nil) (Nat.le_of_ble_eq_true rfl) ?_
      rintro ⟨v, d⟩ ⟨h0, h1, h2⟩
      dsimp only at h0 h1 h2 ⊢
      have hv : v = 0 ∨ v = 1 ∨ v = 2 ∨ v = 3 := by omega
      clear h0 h1
      rcases hv with rfl | rfl | rfl | rfl
      · refine' SubV.ls (.tl .hd) (by decide) rfl ?_ (Nat.le_of_ble_eq_true rfl)
        exact ⟨(_, _, _), ⟨own0, h2⟩, rfl, rfl, (Ent.sel (.tl (.tl (.tl (.tl (.tl (.tl .hd)))))) (Ent.sel .hd (Ent.sel (.tl (.tl (.tl (.tl .hd)))) (Ent.sel (.tl (.tl (.tl (.tl .hd)))) Ent.nil))))⟩
      · refine' SubV.ls (.tl .hd) (by decide) rfl ?_ (Nat.le_of_ble_eq_true rfl)
        exact ⟨(_, _, _), ⟨own1, h2⟩, rfl, rfl, (Ent.sel (.tl (.tl (.tl (.tl (.tl (.tl .hd)))))) (Ent.sel .hd (Ent.sel (.tl (.tl (.tl .hd))) (Ent.sel (.tl (.tl (.tl (.tl .hd)))) Ent.nil))))⟩
      · refine' SubV.ls (.tl .hd) (by decide) rfl ?_ (Nat.le_of_ble_eq_true rfl)
        exact ⟨(_, _, _), ⟨own2, h2⟩, rfl, rfl, (Ent.sel (.tl (.tl (.tl (.tl (.tl (.tl .hd)))))) (Ent.sel .hd (Ent.sel (.tl (.tl .hd)) (Ent.sel (.tl (.tl (.tl (.tl .hd)))) Ent.nil))))⟩
      · refine' SubV.ls (.tl .hd) (by decide) rfl ?_ (Nat.le_of_ble_eq_true rfl)
        exact ⟨(_, _, _), ⟨own3, h2⟩, rfl, rfl, (Ent.sel (.tl (.tl (.tl (.tl (.tl (.tl .hd)))))) (Ent.sel .hd (Ent.sel (.tl .hd) (Ent.sel (.tl (.tl (.tl (.tl .hd)))) Ent.nil))))⟩
    clear p3
    rintro ⟨oa, own, ds⟩ ⟨ho, p3⟩
    dsimp only at ho p3 ⊢
    have o1 := ho.h1
    have o2 := ho.h2
    have o3 := ho.h3
    have hcr : ∀ c ∈ cs, 0 ≤ c ∧ c < 128 := fun c h => (p2 c h).r
    refine' J.args1 ?_
    refine' J.cmp ?_
    refine' J.callG ⟨by kernel_rfl, by kernel_rfl⟩ g_law_draw kg_law_draw ?_
    refine' J.args ?_
    refine' J.nameC .hd (by rw [hcl]; rfl) (by kernel_rfl) ?_
    refine' J.args1 ?_
    refine' J.cint ?_
    refine' Sp.use (law_draw_sp (by omega) (by assumption)) (.cons (.tl .hd) .nil) (Nat.le_of_ble_eq_true rfl) ?_
    intro ⟨v44, d44⟩ ⟨h44, i44, j44⟩; dsimp only at h44 i44 j44 ⊢
    refine' J.cint ?_
    with_reducible refine' CmpV.eq ?_
    refine ⟨by first | exact Nat.le_of_ble_eq_true rfl | omega, ?_⟩
    intro D51
    refine' UnpW2.mk .hd (.tl (.tl (.tl (.tl .hd)))) (.tl (.tl (.tl .hd))) ?_
    refine' J.asgW2 (x1 := st "one") (x2 := st "other") ?_
    refine' J.tuple ?_
    refine' J.args ?_
    refine' J.bin ?_
    refine' J.cint ?_
    refine' J.callG ⟨by kernel_rfl, by kernel_rfl⟩ g_law_draw kg_law_draw ?_
    refine' J.args ?_
    refine' J.nameC (.tl .hd) (by rw [hcl]; rfl) (by kernel_rfl) ?_
    refine' J.args1 ?_
    refine' J.bin ?_
    refine' J.callB (id := "len") ⟨by kernel_rfl, by kernel_rfl⟩ blt_len ?_
    refine' J.args1 ?_
    refine' J.name (.tl .hd) ?_
    refine' JC.len (.tl (.tl (.tl .hd))) (by omega) ?_
    refine' J.cint ?_
    with_reducible refine' BinV.add ?_
    refine' Sp.use (law_draw_sp (by omega) (by assumption)) (.cons .hd .nil) (Nat.le_of_ble_eq_true rfl) ?_
    intro ⟨v52, d52⟩ ⟨h52, i52, j52⟩; dsimp only at h52 i52 j52 ⊢
    with_reducible refine' BinV.add ?_
    refine' J.args1 ?_
    refine' J.bin ?_
    refine' J.cint ?_
    refine' J.callG ⟨by kernel_rfl, by kernel_rfl⟩ g_law_draw kg_law_draw ?_
    refine' J.args ?_
    refine' J.nameC (.tl .hd) (by rw [hcl]; rfl) (by kernel_rfl) ?_
    refine' J.args1 ?_
    refine' J.bin ?_
    refine' J.callB (id := "len") ⟨by kernel_rfl, by kernel_rfl⟩ blt_len ?_
    refine' J.args1 ?_
    refine' J.name (.tl .hd) ?_
    refine' JC.len (.tl (.tl (.tl .hd))) (by omega) ?_
    refine' J.cint ?_
    with_reducible refine' BinV.add ?_
    refine' Sp.use (law_draw_sp (by omega) (by assumption)) (.cons .hd .nil) (Nat.le_of_ble_eq_true rfl) ?_
    intro ⟨v59, d59⟩ ⟨h59, i59, j59⟩; dsimp only at h59 i59 j59 ⊢
    with_reducible refine' BinV.add ?_
    refine ⟨by first | exact Nat.le_of_ble_eq_true rfl | omega, ?_⟩
    intro D66
    refine' UnpW2.mk .hd (.tl (.tl (.tl (.tl (.tl (.tl .hd)))))) (.tl (.tl (.tl (.tl (.tl .hd))))) ?_
    refine' J.asgW2 (x1 := st "low") (x2 := st "high") ?_
    refine' J.tuple ?_
    refine' J.args ?_
    refine' J.callB (id := "min") ⟨by kernel_rfl, by kernel_rfl⟩ blt_min ?_
    refine' J.args ?_
    refine' J.name (.tl (.tl (.tl (.tl (.tl .hd))))) ?_
    refine' J.args1 ?_
    refine' J.name (.tl (.tl (.tl (.tl (.tl (.tl .hd)))))) ?_
    with_reducible refine' JC.minI ?_
    refine' J.args1 ?_
    refine' J.callB (id := "max") ⟨by kernel_rfl, by kernel_rfl⟩ blt_max ?_
    refine' J.args ?_
    refine' J.name (.tl (.tl (.tl (.tl (.tl .hd))))) ?_
    refine' J.args1 ?_
    refine' J.name (.tl (.tl (.tl (.tl (.tl (.tl .hd)))))) ?_
    with_reducible refine' JC.maxI ?_
    refine ⟨by first | exact Nat.le_of_ble_eq_true rfl | omega, ?_⟩
    intro D67
    refine' UnpW2.mk .hd (.tl (.tl (.tl (.tl (.tl (.tl (.tl (.tl .hd)))))))) (.tl (.tl (.tl (.tl (.tl (.tl (.tl .hd))))))) ?_
    refine' J.asg ?_
    refine' J.callG ⟨by kernel_rfl, by kernel_rfl⟩ g_law_buffer kg_law_buffer ?_
    refine' J.args1 ?_
    refine' J.name (.tl .hd) ?_
    refine' Sp.use (law_buffer_sp (by omega)) (.cons (.tl (.tl (.tl .hd))) .nil) (Nat.le_of_ble_eq_true rfl) ?_
    intro b68 _
    refine' StoN.mk (.tl (.tl (.tl (.tl (.tl (.tl (.tl (.tl (.tl .hd))))))))) ?_
    refine' J.if1 ?_
    refine' JT.cmp ?_
    refine' J.callG ⟨by kernel_rfl, by kernel_rfl⟩ g_how_many kg_how_many ?_
    refine' J.args ?_
    refine' J.name (.tl (.tl (.tl (.tl (.tl (.tl (.tl (.tl (.tl .hd))))))))) ?_
    refine' J.args ?_
    refine' J.callG ⟨by kernel_rfl, by kernel_rfl⟩ g_Literal kg_Literal ?_
    refine' J.args ?_
    refine' J.name (.tl (.tl (.tl .hd))) ?_
    refine' J.args1 ?_
    refine' J.name (.tl (.tl (.tl (.tl .hd)))) ?_
    refine' Sp.use (literal_sp (by assumption)) (.cons (.tl (.tl (.tl (.tl .hd)))) .nil) (Nat.le_of_ble_eq_true rfl) ?_
    intro x70 _
    refine' J.args ?_
    refine' J.name (.tl (.tl (.tl (.tl (.tl .hd))))) ?_
    refine' J.args1 ?_
    refine' J.name (.tl (.tl (.tl (.tl (.tl (.tl .hd)))))) ?_
    refine' Sp.use (how_many_sp (by assumption) (by assumption) (by omega) (by omega) (by omega)) (.cons .hd (.cons .hd (.cons .hd .nil))) (Nat.le_of_ble_eq_true rfl) ?_
    intro _ _
    refine' J.callG ⟨by kernel_rfl, by kernel_rfl⟩ g_law_count kg_law_count ?_
    refine' J.args ?_
    refine' J.slice ?_
    refine' J.name (.tl .hd) ?_
    refine' JP.some ?_
    refine' J.bin ?_
    refine' J.name (.tl (.tl (.tl (.tl (.tl (.tl (.tl .hd))))))) ?_
    refine' J.cint ?_
    with_reducible refine' BinV.sub ?_
    refine' PInt.mk ?_
    refine' JP.some ?_
    refine' J.bin ?_
    refine' J.name (.tl (.tl (.tl (.tl (.tl (.tl (.tl (.tl .hd)))))))) ?_
    refine' J.cint ?_
    with_reducible refine' BinV.sub ?_
    refine' PInt.mk ?_
    refine' SliV.mk (.tl (.tl (.tl .hd))) (by omega) (.run (by omega) (by omega)) ?_
    intro D74
    refine' J.args ?_
    refine' J.name (.tl (.tl (.tl .hd))) ?_
    refine' J.args1 ?_
    refine' J.name (.tl (.tl (.tl (.tl .hd)))) ?_
    refine' Sp.use (law_count_sl (by omega) (by assumption) (by assumption) (by assumption) (by assumption)) (.cons .hd (.cons (.tl .hd) .nil)) (Nat.le_of_ble_eq_true rfl) ?_
    intro _ _
    with_reducible refine' CmpT.ne ?_ ?_
    intro h77
    refine' J.ret ?_
    refine' J.cbool ?_
    with_reducible refine' Seq.rt ?_
    rotate_left
    intro h77
    rotate_left
    · exfalso
      rename ¬ _ = _ => hne
      exact hne (cnt_slice (by omega) (by omega) (by omega) o1)
    have q1 : 1 ≤ 1 + v52 ∧ 1 + v52 ≤ (cs.length : Int) + 1 := by omega
    have q2 : 1 ≤ 1 + v59 ∧ 1 + v59 ≤ (cs.length : Int) + 1 := by omega
    clear h77
    generalize decide (v44 = 1) = f
    generalize 1 + v52 = one at q1 ⊢
    generalize 1 + v59 = other at q2 ⊢
    refine' J.forT (.tail _ (.tail _ (.tail _ (.tail _ (.tail _ (.tail _ (.tail _ (.tail _ (.tail _ (.tail _ (.head _))))))))))) ?_
    refine' J.tuple ?_
    refine' J.args ?_
    refine' J.cbool ?_
    refine' J.args1 ?_
    refine' J.cbool ?_
    refine ⟨by first | exact Nat.le_of_ble_eq_true rfl | omega, ?_⟩
    intro D85
    refine' ⟨_, _, _, Unit, fun _ => [some (.ref l), some (.ref ca), none, some (.ref oa), some (.bool f), some (.int one), some (.int other), some (.int (min one other)), some (.int (max one other)), none, none, none, none, none], fun _ => [LI ca cs, LI oa own], fun _ _ => True, (), rfl, .hd, trivial, (.keep (.keep (.keep (.keep (.keep (.keep (.keep (.keep (.keep (.drop (.keep (.keep (.keep (.keep .nil)))))))))))))), (Ent.sel (.tl (.tl (.tl (.tl .hd)))) (Ent.sel (.tl .hd) Ent.nil)), ?_, ?_⟩
    · intro i _ u hu _
      obtain ⟨kept, rfl⟩ : ∃ kept, u = .bool kept := by
        match i, hu with
        | 0, e => exact ⟨true, (Option.some.inj e).symm⟩
        | 1, e => exact ⟨false, (Option.some.inj e).symm⟩
        | n + 2, e => cases e
      refine' ⟨_, (.tl (.tl (.tl (.tl (.tl (.tl (.tl (.tl (.tl (.tl .hd)))))))))), ?_⟩
      dsimp only
      cases kept
      · refine' J.asg ?_
        refine' J.callG ⟨by kernel_rfl, by kernel_rfl⟩ g_law_buffer kg_law_buffer ?_
        refine' J.args1 ?_
        refine' J.name (.tl .hd) ?_
        refine' Sp.use (law_buffer_sp (by omega)) (.cons .hd .nil) (Nat.le_of_ble_eq_true rfl) ?_
        intro b92 _
        refine' StoN.mk (.tl (.tl (.tl (.tl (.tl (.tl (.tl (.tl (.tl .hd))))))))) ?_
        refine' J.asgT2 ?_
        refine' J.callG ⟨by kernel_rfl, by kernel_rfl⟩ g_law_left kg_law_left ?_
        refine' J.args ?_
        refine' J.name (.tl .hd) ?_
        refine' J.args ?_
        refine' J.name (.tl (.tl (.tl (.tl (.tl (.tl (.tl .hd))))))) ?_
        refine' J.args ?_
        refine' J.name (.tl (.tl (.tl (.tl (.tl (.tl (.tl (.tl .hd)))))))) ?_
        refine' J.args ?_
        refine' J.name (.tl (.tl (.tl .hd))) ?_
        refine' J.args ?_
        refine' J.name (.tl (.tl (.tl (.tl .hd)))) ?_
        refine' J.args1 ?_
        refine' J.name (.tl (.tl (.tl (.tl (.tl (.tl (.tl (.tl (.tl (.tl .hd)))))))))) ?_
        refine' Sp.use (law_left_sp (by omega) (by assumption) (by assumption) (by assumption) (by assumption)) (.cons (.tl .hd) (.cons (.tl .hd) .nil)) (Nat.le_of_ble_eq_true rfl) ?_
        intro ⟨t94, q94⟩ _
        refine' UnpT.mk2 .hd (.tl (.tl (.tl (.tl (.tl (.tl (.tl (.tl (.tl (.tl (.tl .hd))))))))))) (.tl (.tl (.tl (.tl (.tl (.tl (.tl (.tl (.tl (.tl (.tl (.tl .hd)))))))))))) ?_
        refine' J.if_ ?_
        refine' JT.plain ?_
        refine' J.name (.tl (.tl (.tl (.tl (.tl (.tl (.tl (.tl (.tl (.tl .hd)))))))))) ?_
        with_reducible refine' TruT.ff ?_
        refine' J.asg ?_
        refine' J.callG ⟨by kernel_rfl, by kernel_rfl⟩ g_flush_lines kg_flush_lines ?_
        refine' J.args ?_
        refine' J.name (.tl (.tl (.tl (.tl (.tl (.tl (.tl (.tl (.tl .hd))))))))) ?_
        refine' J.args ?_
        refine' J.callG ⟨by kernel_rfl, by kernel_rfl⟩ g_Literal kg_Literal ?_
        refine' J.args ?_
        refine' J.name (.tl (.tl (.tl .hd))) ?_
        refine' J.args1 ?_
        refine' J.name (.tl (.tl (.tl (.tl .hd)))) ?_
        refine' Sp.use (literal_sp (by assumption)) (.cons (.tl (.tl .hd)) .nil) (Nat.le_of_ble_eq_true rfl) ?_
        intro x98 _
        refine' J.args ?_
        refine' J.name (.tl (.tl (.tl (.tl (.tl .hd))))) ?_
        refine' J.args1 ?_
        refine' J.name (.tl (.tl (.tl (.tl (.tl (.tl .hd)))))) ?_
        refine' Sp.use (flush_sp (by assumption) (by assumption) (ho.h4 _) (by assumption) (by assumption)) (.cons .hd (.cons .hd (.cons (.tl (.tl .hd)) .nil))) (Nat.le_of_ble_eq_true rfl) ?_
        intro _ _
        refine' StoN.mk (.tl (.tl (.tl (.tl (.tl (.tl (.tl (.tl (.tl (.tl (.tl (.tl (.tl .hd))))))))))))) ?_
        refine' J.nil ?_
        with_reducible refine' Seq.nx ?_
        refine' J.iflast ?_
        refine' JT.or ?_
        refine' JT.cmp ?_
        refine' J.name (.tl (.tl (.tl (.tl (.tl (.tl (.tl (.tl (.tl (.tl (.tl (.tl (.tl .hd))))))))))))) ?_
        refine' J.name (.tl (.tl (.tl (.tl (.tl (.tl (.tl (.tl (.tl (.tl (.tl (.tl .hd)))))))))))) ?_
        with_reducible refine' CmpT.ne ?_ ?_
        intro h102
        exact absurd rfl h102
        intro h102
        refine' JT.or ?_
        refine' JT.cmp ?_
        refine' J.meth ?_
        refine' J.name (.tl (.tl (.tl (.tl (.tl (.tl (.tl (.tl (.tl .hd))))))))) ?_
        refine' MetV.mk (a := BUF _ _) (.tl (.tl .hd)) (BUF.recv (by decide +kernel)) m515_codes ?_
        refine' J.args ?_
        refine' J.cint ?_
        refine' J.args1 ?_
        refine' J.bin ?_
        refine' J.meth0 ?_
        refine' J.name (.tl (.tl (.tl (.tl (.tl (.tl (.tl (.tl (.tl .hd))))))))) ?_
        refine' MetV.mk (a := BUF _ _) (.tl (.tl .hd)) (BUF.recv (by decide +kernel)) m515_size ?_
        refine' Sp.use (size_sp) (.cons (.tl (.tl .hd)) .nil) (Nat.le_of_ble_eq_true rfl) ?_
        intro _ _
        refine' J.cint ?_
        with_reducible refine' BinV.add ?_
        refine' Sp.use (codes_sp (by omega)) (.cons .hd .nil) (Nat.le_of_ble_eq_true rfl) ?_
        intro q105 _
        refine' J.name (.tl (.tl (.tl (.tl (.tl (.tl (.tl (.tl (.tl (.tl (.tl .hd))))))))))) ?_
        refine' CmpT.neL .hd (.tl (.tl (.tl (.tl .hd)))) (Nat.le_of_ble_eq_true rfl) ?_ ?_
        intro h107
        refine' J.ret ?_
        refine' J.cbool ?_
        with_reducible refine' FQ.rt ?_
        with_reducible refine' Seq.rt ?_
        rotate_left
        intro h107
        refine' JT.or0 ?_
        refine' J.nil ?_
        rotate_left
        · exfalso
          rename ¬ _ = _ => hne
          exact hne (whole_slice _)
        · refine' FQ.nx () trivial ?_ ?_
          exact (.keep (.keep (.drop (.keep (.keep (.keep (.keep (.keep (.keep (.drop (.drop (.drop (.drop (.drop .nil))))))))))))))
          with_reducible refine' Ent.sel (.tl (.tl (.tl (.tl (.tl .hd))))) ?_
          with_reducible refine' Ent.sel (.tl (.tl (.tl .hd))) ?_
          exact Ent.nil
      · refine' J.asg ?_
        refine' J.callG ⟨by kernel_rfl, by kernel_rfl⟩ g_law_buffer kg_law_buffer ?_
        refine' J.args1 ?_
        refine' J.name (.tl .hd) ?_
        refine' Sp.use (law_buffer_sp (by omega)) (.cons .hd .nil) (Nat.le_of_ble_eq_true rfl) ?_
        intro b92 _
        refine' StoN.mk (.tl (.tl (.tl (.tl (.tl (.tl (.tl (.tl (.tl .hd))))))))) ?_
        refine' J.asgT2 ?_
        refine' J.callG ⟨by kernel_rfl, by kernel_rfl⟩ g_law_left kg_law_left ?_
        refine' J.args ?_
        refine' J.name (.tl .hd) ?_
        refine' J.args ?_
        refine' J.name (.tl (.tl (.tl (.tl (.tl (.tl (.tl .hd))))))) ?_
        refine' J.args ?_
        refine' J.name (.tl (.tl (.tl (.tl (.tl (.tl (.tl (.tl .hd)))))))) ?_
        refine' J.args ?_
        refine' J.name (.tl (.tl (.tl .hd))) ?_
        refine' J.args ?_
        refine' J.name (.tl (.tl (.tl (.tl .hd)))) ?_
        refine' J.args1 ?_
        refine' J.name (.tl (.tl (.tl (.tl (.tl (.tl (.tl (.tl (.tl (.tl .hd)))))))))) ?_
        refine' Sp.use (law_left_sp (by omega) (by assumption) (by assumption) (by assumption) (by assumption)) (.cons (.tl .hd) (.cons (.tl .hd) .nil)) (Nat.le_of_ble_eq_true rfl) ?_
        intro ⟨t94, q94⟩ _
        refine' UnpT.mk2 .hd (.tl (.tl (.tl (.tl (.tl (.tl (.tl (.tl (.tl (.tl (.tl .hd))))))))))) (.tl (.tl (.tl (.tl (.tl (.tl (.tl (.tl (.tl (.tl (.tl (.tl .hd)))))))))))) ?_
        refine' J.if_ ?_
        refine' JT.plain ?_
        refine' J.name (.tl (.tl (.tl (.tl (.tl (.tl (.tl (.tl (.tl (.tl .hd)))))))))) ?_
        with_reducible refine' TruT.tt ?_
        refine' J.asg ?_
        refine' J.callG ⟨by kernel_rfl, by kernel_rfl⟩ g_keep_lines kg_keep_lines ?_
        refine' J.args ?_
        refine' J.name (.tl (.tl (.tl (.tl (.tl (.tl (.tl (.tl (.tl .hd))))))))) ?_
        refine' J.args ?_
        refine' J.callG ⟨by kernel_rfl, by kernel_rfl⟩ g_Literal kg_Literal ?_
        refine' J.args ?_
        refine' J.name (.tl (.tl (.tl .hd))) ?_
        refine' J.args1 ?_
        refine' J.name (.tl (.tl (.tl (.tl .hd)))) ?_
        refine' Sp.use (literal_sp (by assumption)) (.cons (.tl (.tl .hd)) .nil) (Nat.le_of_ble_eq_true rfl) ?_
        intro x98 _
        refine' J.args ?_
        refine' J.name (.tl (.tl (.tl (.tl (.tl .hd))))) ?_
        refine' J.args1 ?_
        refine' J.name (.tl (.tl (.tl (.tl (.tl (.tl .hd)))))) ?_
        refine' Sp.use (keep_sp (by assumption) (by assumption) (ho.h4 _) (by assumption) (by assumption)) (.cons .hd (.cons .hd (.cons (.tl (.tl .hd)) .nil))) (Nat.le_of_ble_eq_true rfl) ?_
        intro _ _
        refine' StoN.mk (.tl (.tl (.tl (.tl (.tl (.tl (.tl (.tl (.tl (.tl (.tl (.tl (.tl .hd))))))))))))) ?_
        refine' J.nil ?_
        with_reducible refine' Seq.nx ?_
        refine' J.iflast ?_
        refine' JT.or ?_
        refine' JT.cmp ?_
        refine' J.name (.tl (.tl (.tl (.tl (.tl (.tl (.tl (.tl (.tl (.tl (.tl (.tl (.tl .hd))))))))))))) ?_
        refine' J.name (.tl (.tl (.tl (.tl (.tl (.tl (.tl (.tl (.tl (.tl (.tl (.tl .hd)))))))))))) ?_
        with_reducible refine' CmpT.ne ?_ ?_
        intro h102
        exact absurd rfl h102
        intro h102
        refine' JT.or ?_
        refine' JT.cmp ?_
        refine' J.meth ?_
        refine' J.name (.tl (.tl (.tl (.tl (.tl (.tl (.tl (.tl (.tl .hd))))))))) ?_
        refine' MetV.mk (a := BUF _ _) (.tl (.tl .hd)) (BUF.recv (by decide +kernel)) m515_codes ?_
        refine' J.args ?_
        refine' J.cint ?_
        refine' J.args1 ?_
        refine' J.bin ?_
        refine' J.meth0 ?_
        refine' J.name (.tl (.tl (.tl (.tl (.tl (.tl (.tl (.tl (.tl .hd))))))))) ?_
        refine' MetV.mk (a := BUF _ _) (.tl (.tl .hd)) (BUF.recv (by decide +kernel)) m515_size ?_
        refine' Sp.use (size_sp) (.cons (.tl (.tl .hd)) .nil) (Nat.le_of_ble_eq_true rfl) ?_
        intro _ _
        refine' J.cint ?_
        with_reducible refine' BinV.add ?_
        refine' Sp.use (codes_sp (by omega)) (.cons .hd .nil) (Nat.le_of_ble_eq_true rfl) ?_
        intro q105 _
        refine' J.name (.tl (.tl (.tl (.tl (.tl (.tl (.tl (.tl (.tl (.tl (.tl .hd))))))))))) ?_
        refine' CmpT.neL .hd (.tl (.tl (.tl (.tl .hd)))) (Nat.le_of_ble_eq_true rfl) ?_ ?_
        intro h107
        refine' J.ret ?_
        refine' J.cbool ?_
        with_reducible refine' FQ.rt ?_
        with_reducible refine' Seq.rt ?_
        rotate_left
        intro h107
        refine' JT.or0 ?_
        refine' J.nil ?_
        rotate_left
        · exfalso
          rename ¬ _ = _ => hne
          exact hne (whole_slice _)
        · refine' FQ.nx () trivial ?_ ?_
          exact (.keep (.keep (.drop (.keep (.keep (.keep (.keep (.keep (.keep (.drop (.drop (.drop (.drop (.drop .nil))))))))))))))
          with_reducible refine' Ent.sel (.tl (.tl (.tl (.tl (.tl .hd))))) ?_
          with_reducible refine' Ent.sel (.tl (.tl (.tl .hd))) ?_
          exact Ent.nil
    · intro _ _
      dsimp only
      refine' J.ret ?_
      refine' J.cbool ?_
      exact rfl
theorem law_run {w : World} {h₀ h₁ : Heap} {gens : Array GenState} {drawn : Drawn} {tk : Nat} {os : OsState} {mean : ExcName → Option Value} {mg mb m : Map} {f l : Addr} {cdv : Value} {o : Obj} {vs : List Value} {ns : List Int} {qual : Str} {scope : Scope} {body : List Stmt}
    (PJ : LawPJ qual scope body) (hce : ∀ n, cellsFrom n scope.names [] = [(st "deck", n)]) (K0 : Below callerA h₀ [] h₀) (KX : (KF w).In h₀) (T : Top N70.hd.view_1 LW mean mg mb h₀) (F : Fr h₀ h₀.objs.size h₁ m) (N0 : News h₀ h₀.objs.size h₁ [(h₀.objs.size + 1, o)])
    (hd : o.data = .cell none) (hm : m (st "script") = some (.ref l)) (hL : h₀.IsList l (List.toArray vs)) (hI : IntsAre vs ns) (hn : ns.length ≤ 63) :
    wpAny (model PR w) (callerA.deeper (envOfC qual scope h₀.objs.size f cdv)) (execs body (envOfC qual scope h₀.objs.size f cdv)) (fun fl s' => fl = .ret (.bool true) ∧ ∃ h' tk' m', s' = ⟨h', gens, drawn, tk', os⟩ ∧ Fr h₀ h₀.objs.size h' m') (fun _ _ => False) ⟨h₁, gens, drawn, tk, os⟩ := by
  obtain ⟨hS, hj⟩ := PJ
  have okc : Ok 14 ⟨w, callerA.deeper (envOfC qual scope h₀.objs.size f cdv), f, cdv, cellsFrom (h₀.objs.size + 1) scope.names [], [], callerA, h₀, h₀, h₀.objs.size, gens, drawn, os, mean, mg, mb⟩ ⟨qual, scope, lawN, none⟩ := {
    handled := rfl
    frames := Around.frames_deeper K0.stack
    B := K0
    X := KX
    T := T
    room := by show callerA.depth + 1 + 14 < _; decide +kernel
    units := by show callerA.units + 3 + 8 * 14 < _; decide +kernel
    fn := hS }
  have g : good ⟨w, callerA.deeper (envOfC qual scope h₀.objs.size f cdv), f, cdv, cellsFrom (h₀.objs.size + 1) scope.names [], [], callerA, h₀, h₀, h₀.objs.size, gens, drawn, os, mean, mg, mb⟩ ⟨qual, scope, lawN, none⟩ ⟨h₁, gens, drawn, tk, os⟩ [some (.ref l), none, none, none, none, none, none, none, none, none, none, none, none, none] ([CE0 (h₀.objs.size + 1)] ++ []) :=
    ⟨h₁, tk, m, [(h₀.objs.size + 1, o)], rfl, F, N0, List.nodup_cons.mpr ⟨(fun q => nomatch q), List.nodup_nil⟩, ⟨[(h₀.objs.size + 1, o)], [], rfl, ⟨o, rfl, hd⟩, rfl⟩, ⟨⟨_, hm, rfl⟩, trivial⟩, fun _ e => nomatch e⟩
  refine wpAny_mono (hj _ (h₀.objs.size + 1) l vs ns (hce _) hL hI hn okc [] _ g) (fun fl s' ⟨b, v', H', hf, e, g'⟩ => ?_) fun _ _ x => x
  subst e
  obtain ⟨h', tk', mv, N, es, Fm, _⟩ := g'
  refine ⟨?_, h', tk', mv, es, Fm⟩
  cases fl with
  | ret v =>
    have hf : v = .bool true := hf
    rw [hf]
  | _ => exact hf.elim
end N70
local macro_rules | `(tactic| k_qdec) => `(tactic| decide +kernel)
set_option maxHeartbeats 4000000 in
theorem PySem.Challenge.cw_np0070_01_holds : PySem.Challenge.rw_np0070_01.Holds := by
  exact N70.hd (by
    w_strict (
      k_go0
      dsimp only
      refine' wpAny_mono (N70.law_run (N70.law_walk ‹World› ?n1 _ ?n2 _ _ ?n3 ?n4 ?n5 ?n6 ?n7 ?n8 ?n9 ?n10 ?n11 ?n12 ?look) (fun _ => rfl) (by assumption) (by assumption) (by assumption) (by assumption) (by assumption) ?hd ?hm (by assumption) (by assumption) ?hn) (fun fl s' h => ?post) (fun _ _ h => h.elim)
      case look =>
        unfold N70.KF
        refine' Eq.trans ?look1 ?look2
        case look1 => k_is
        case look2 =>
          exact rfl
      case hd => exact (by assumption : _ = Data.cell _).trans (by rfl)
      case hm => exact (by rfl)
      case hn => omega
      case post =>
        obtain ⟨e, h', tk', m', es, Fr'⟩ := h
        subst e
        subst es
        refine goodW_bool Fr' (by assumption) (raisesW_false ?_) ?_
        · wrow_none_raised
        · wrow_post))

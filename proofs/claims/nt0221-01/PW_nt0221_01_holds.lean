import PyProof.Rows.All
import Wide.All
import OpenK.AllK
import Wide.FinOn
import Lean
import PySem.Challenge.RW_nt0221_01
set_option Elab.async false
set_option linter.all false
set_option maxRecDepth 100000
set_option bootstrap.genMatcherCode false
set_option genInjectivity false
set_option genSizeOf false
section
open PySem PySem.W PyProof.Rows
namespace HD
noncomputable abbrev pw : Program := PySem.Challenge.pw_nt0221_01
noncomputable abbrev r (a : Addr) : Value := .ref a
noncomputable abbrev i (n : Nat) : Value := .int n 0
noncomputable abbrev t (x : String) : Value := .type x
noncomputable abbrev b (x : String) : Value := .builtin x
noncomputable abbrev s (x : String) (k : Tok) : Value := .str (Str.ofString x) k
noncomputable abbrev e (P : Params) (x : String) (k : Tok) (v : Value) : DictEntry := ⟨PyData.keyHash P (Str.ofString x), .str (Str.ofString x) k, v⟩
noncomputable abbrev N (o : Obj) (l r : BT) : BT := .node o l r
noncomputable abbrev E : BT := .nil
noncomputable def bodyE : List Stmt := pw.main.body
noncomputable def noStmt : Stmt := .Pass ⟨0, 0, 0, 0⟩
noncomputable def atL (l : List Stmt) (k : Nat) : Stmt := match l, k with
  | [], _ => noStmt
  | x :: _, 0 => x
  | _ :: l, k + 1 => atL l k
noncomputable def at1 (k : Nat) : Stmt := atL bodyE k
noncomputable def at2 (k j : Nat) : Stmt := match at1 k with
  | .ClassDef _ _ _ b _ _ _ _ _ _ _ => atL b j
  | x => x
noncomputable def dArgs : Stmt → Arguments
  | .FunctionDef _ a _ _ _ _ _ _ _ _ => a
  | _ => ⟨[], [], none, [], [], none, []⟩
noncomputable def dBody : Stmt → List Stmt
  | .FunctionDef _ _ b _ _ _ _ _ _ _ => b
  | _ => []
noncomputable def dScope : Stmt → Scope
  | .FunctionDef _ _ _ _ _ _ sc _ _ _ => sc
  | _ => ⟨.module, [], false, false, []⟩
noncomputable abbrev fd (st : Stmt) (name qual : String) (g : Addr) (dflt kw doc pm code ct : Value) (blt : Addr) : FuncData :=
  { name := Str.ofString name, qualname := Str.ofString qual, params := dArgs st, body := .stmts (dBody st), scope := dScope st, globals := g, closure := [], defaults := dflt, kwdefaults := kw, doc := doc, pyModule := pm, annotations := none, code := code, closureTuple := ct, builtins := blt }
noncomputable abbrev cd (name : String) (bases mro : List Value) (ns : Addr) (qual : String) (hasDict : Bool) (subs : List Value) (abs del : Bool) : ClassData :=
  { name := Str.ofString name, bases := bases, mro := mro, ns := ns, qualname := Str.ofString qual, hasDict := hasDict, slotNames := [], subclasses := subs, abstract := abs, collection := none, hasDel := del }
noncomputable def envT : Env := { scope := pw.main.scope, locals := mainNs, globals := mainNs, cells := [], code := .ref 13, frame := some 14 }
noncomputable def codeT : Code := .body (behindTheImports pw) envT
noncomputable abbrev Bt : List Frame := [topFrame ⟨0, 0, 0, 0⟩]
noncomputable abbrev tkRun := @PySem.W.Fast.tw10110043849684766642
noncomputable abbrev tkTab := @PySem.W.Fast.tw14364793385576792824
noncomputable abbrev tkExecs := @PySem.W.Fast.tw12563942051412417395
noncomputable abbrev thr (l : List Stmt) (p : Pos) : Thread := ⟨(tkExecs l envT).wrap doneF deadEnd id id, codeT, p, Bt⟩
noncomputable abbrev sts (a n : Nat) : List Stmt := (bodyE.drop a).take n
noncomputable def L0 : Life := {}
noncomputable abbrev ST (T : BT) (n k : Nat) (os : OsState) : SharedT := ⟨T, n, L0, #[], boot_drawn, k, os⟩
noncomputable abbrev F (o : Obj) : BT := N o E E
noncomputable abbrev T0 (x1 x2 x3 x4 x5 x6 x7 x8 : Nat) (x0 : String) : Obj := ⟨(t "code"), none, (.fields [(s x0 x1), (s x0 x2), (s "/claim/cut.py" x3), (i x4), (i 0), (i 0), (i 0), (i 0), (r x5), (.bool false), (i 181), (r x6), .none, .none, .none, .none, (i x7), (i x4), (s "/claim/cut.py" x8)].toArray), [].toArray⟩
noncomputable abbrev T1 (x0 x1 x3 : Nat) (x2 : String) : Obj := ⟨(t "frame"), none, .plain, [(some (r x0)), (some (r 3)), (some (r x1)), none, (some (s x2 x3)), none, (some (r 0))].toArray⟩
noncomputable abbrev T2 (x1 : Nat) (x0 : String) : Obj := ⟨(t "tuple"), none, (.seq [(s x0 x1)].toArray 0), [].toArray⟩
noncomputable abbrev T3 (x0 : Nat) (x1 : String) : Obj := ⟨.none, none, (.func (fd (at1 x0) x1 x1 0 .none .none .none .none .none .none 0)), [].toArray⟩
noncomputable abbrev T4 (x1 x3 x4 x5 x6 x7 x8 x9 x10 x11 x12 x13 : Nat) (x0 x2 : String) : Obj := ⟨(t "code"), none, (.fields [(s x0 x1), (s x2 x3), (s "/claim/cut.py" x4), (i x5), (i x6), (i 0), (i 0), (i 3), (r x7), (.bool true), (i 181), (r x8), .none, (r x9), (r x10), (r x11), (i x12), (i x5), (s "/claim/cut.py" x13)].toArray), [].toArray⟩
noncomputable abbrev T5 (x0 x3 x4 : Nat) (x1 x2 : String) : Obj := ⟨(t "function"), none, (.func (fd (at1 x0) x1 x1 3 .none .none .none (s x2 x3) (r x4) .none 0)), [].toArray⟩
noncomputable abbrev T6 (P : Params) (x0 x2 x3 x5 x6 x7 x8 x9 x10 x11 x12 : Nat) (x1 x4 : String) : Obj := ⟨(t "dict"), none, (.dict [e P "__module__" x0 (s x1 x2), e P "__qualname__" x3 (s x4 x5), e P "__firstlineno__" x6 (.int (x7) x8), e P "__init__" x9 (r x10), e P "__static_attributes__" x11 (r x12)].toArray 5), [].toArray⟩
noncomputable abbrev T7 (x0 x1 : Nat) : Obj := ⟨.none, none, (.fields [(i x0), (i 4), (r x1)].toArray), [].toArray⟩
noncomputable abbrev T8 (x1 x3 : Nat) (x0 x2 : String) : Obj := ⟨(t "tuple"), none, (.seq [(s x0 x1), (s x2 x3)].toArray 0), [].toArray⟩
noncomputable abbrev T9 (x0 x1 : Nat) (x2 x3 : String) : Obj := ⟨.none, none, (.func (fd (at2 x0 x1) x2 x3 0 .none .none .none .none .none .none 0)), [].toArray⟩
noncomputable abbrev T10 (x0 x1 x5 x6 : Nat) (x2 x3 x4 : String) : Obj := ⟨(t "function"), none, (.func (fd (at2 x0 x1) x2 x3 3 .none .none .none (s x4 x5) (r x6) .none 0)), [].toArray⟩
noncomputable abbrev T11 (P : Params) (x0 x2 x3 x4 x5 x6 x7 x8 x9 x10 x11 x12 x13 x14 : Nat) (x1 : String) : Obj := ⟨(t "dict"), none, (.dict [e P "__module__" x0 (s x1 x2), e P "__firstlineno__" x3 (.int (x4) x5), e P "__init__" x6 (r x7), e P "__static_attributes__" x8 (r x9), e P "__dict__" x10 (r x11), e P "__weakref__" x12 (r x13), e P "__doc__" x14 .none].toArray 4), [].toArray⟩
noncomputable abbrev T12 (x1 x2 x3 x4 : Nat) (x0 : String) : Obj := ⟨(t "type"), none, (.cls (cd x0 [(t "object")] [(r x1), (t "object")] x2 x0 true [] false false)), [none, none, (some (s x0 x3)), (some (s x0 x4)), (some (b "object.__new__")), (some (.bool true))].toArray⟩
noncomputable abbrev T13 (x0 x1 : Nat) : Obj := ⟨(t "getset_descriptor"), none, (.fields [(s "__dict__" x0), (r x1), (b "function.__dict__"), (b "function.__dict__#set")].toArray), [].toArray⟩
noncomputable abbrev T14 (x0 x1 : Nat) : Obj := ⟨(t "getset_descriptor"), none, (.fields [(s "__weakref__" x0), (r x1), (b "ExceptionGroup.__weakref__"), .none].toArray), [].toArray⟩
noncomputable abbrev T15 (x0 : Nat) : Obj := ⟨(t "super"), none, (.fields [(r x0), (r x0), (r x0)].toArray), [].toArray⟩
noncomputable abbrev T16 (x0 : Nat) : Obj := ⟨(t "builtin_function_or_method"), none, (.fields [(b "object.__init_subclass__"), (r x0)].toArray), [].toArray⟩
noncomputable abbrev T17 (P : Params) (x0 x2 : Nat) (x1 : String) : Obj := ⟨(t "dict"), none, (.dict [e P "title" x0 (s x1 x2)].toArray 1), [].toArray⟩
noncomputable abbrev T18 (x0 : Nat) : Obj := ⟨(r 38), some x0, .plain, [].toArray⟩
noncomputable abbrev T19 (P : Params) (x0 x1 x2 x4 : Nat) (x3 : String) : Obj := ⟨(t "frame"), none, (.dict [e P "self" x0 (r x1), e P "title" x2 (s x3 x4)].toArray 2), [].toArray⟩
noncomputable abbrev T20 (x1 x3 x5 : Nat) (x0 x2 x4 : String) : Obj := ⟨(t "tuple"), none, (.seq [(s x0 x1), (s x2 x3), (s x4 x5)].toArray 0), [].toArray⟩
noncomputable abbrev T21 (x0 : Nat) : Obj := ⟨(t "tuple"), none, (.seq [(r x0)].toArray 0), [].toArray⟩
noncomputable abbrev T22 (P : Params) (x0 x2 x3 x4 x5 x6 x7 x8 x9 x10 : Nat) (x1 : String) : Obj := ⟨(t "dict"), none, (.dict [e P "__module__" x0 (s x1 x2), e P "__firstlineno__" x3 (.int (x4) x5), e P "__init__" x6 (r x7), e P "__static_attributes__" x8 (r x9), e P "__doc__" x10 .none].toArray 2), [].toArray⟩
noncomputable abbrev T23 (x1 x2 x3 x4 x5 x6 : Nat) (x0 : String) : Obj := ⟨(t "type"), none, (.cls (cd x0 [(r x1)] [(r x2), (r x1), (t "object")] x3 x0 true [] false false)), [(some (r x4)), none, (some (s x0 x5)), (some (s x0 x6)), (some (b "object.__new__")), (some (.bool true))].toArray⟩
noncomputable abbrev T24 (x1 x3 x5 x7 : Nat) (x0 x2 x4 x6 : String) : Obj := ⟨(t "tuple"), none, (.seq [(s x0 x1), (s x2 x3), (s x4 x5), (s x6 x7)].toArray 0), [].toArray⟩
noncomputable abbrev T25 (P : Params) (x0 x2 x3 x4 x5 x6 x7 x9 x10 x12 x13 x14 x15 : Nat) (x1 x8 x11 : String) : Obj := ⟨(t "dict"), none, (.dict [e P "__module__" x0 (s x1 x2), e P "__firstlineno__" x3 (.int (x4) x5), e P "__init__" x6 (r x7), e P x8 x9 (r x10), e P x11 x12 (r x13), e P "__doc__" x14 .none].toArray x15), [].toArray⟩
noncomputable abbrev T26 (x1 x2 x3 x4 x5 : Nat) (x0 : String) : Obj := ⟨(t "type"), none, (.cls (cd x0 [(r 228)] [(r x1), (r 228), (t "Exception"), (t "BaseException"), (t "object")] x2 x0 true [] false false)), [(some (r x3)), none, (some (s x0 x4)), (some (s x0 x5)), (some (b "Exception.__new__")), (some (.bool true))].toArray⟩
noncomputable abbrev T27 (x1 x2 x3 x4 x5 : Nat) (x0 : String) : Obj := ⟨(t "type"), none, (.cls (cd x0 [(t "Exception")] [(r x1), (t "Exception"), (t "BaseException"), (t "object")] x2 x0 true [] false false)), [(some (r x3)), none, (some (s x0 x4)), (some (s x0 x5)), (some (b "Exception.__new__")), (some (.bool true))].toArray⟩
noncomputable abbrev T28 (x1 x3 x5 x7 x9 : Nat) (x0 x2 x4 x6 x8 : String) : Obj := ⟨(t "tuple"), none, (.seq [(s x0 x1), (s x2 x3), (s x4 x5), (s x6 x7), (s x8 x9)].toArray 0), [].toArray⟩
noncomputable abbrev T29 (x0 x1 x2 x3 : Nat) : Obj := ⟨.none, none, (.fields [(i x0), (i 4), (r x1), (i x2), (i 4), (r x3)].toArray), [].toArray⟩
noncomputable abbrev T30 (P : Params) (x0 x1 x3 x4 x5 x6 x7 x8 x9 x10 x11 x12 x13 : Nat) (x2 : String) : Obj := ⟨(t "dict"), none, (.dict [e P "__module__" x0 (s "scheme.core" 831), e P "__qualname__" x1 (s x2 x3), e P "__firstlineno__" x4 (.int (x5) x6), e P "kind" x7 (.int (x8) x9), e P "__init__" x10 (r x11), e P "__static_attributes__" x12 (r x13)].toArray 6), [].toArray⟩
noncomputable abbrev T31 (P : Params) (x0 x1 x2 x3 x4 x5 x6 x7 x8 x9 x10 x11 : Nat) : Obj := ⟨(t "dict"), none, (.dict [e P "__module__" x0 (s "scheme.core" 831), e P "__firstlineno__" x1 (.int (x2) x3), e P "kind" x4 (.int (x5) x6), e P "__init__" x7 (r x8), e P "__static_attributes__" x9 (r x10), e P "__doc__" x11 .none].toArray 2), [].toArray⟩
noncomputable abbrev T32 (P : Params) (x0 x1 x3 x4 x5 x6 x7 x8 x9 x10 x11 x12 x13 x14 x15 x16 x17 : Nat) (x2 : String) : Obj := ⟨(t "dict"), none, (.dict [e P "__module__" x0 (s "scheme.core" 831), e P "__qualname__" x1 (s x2 x3), e P "__firstlineno__" x4 (.int (x5) x6), e P "kind" x7 (.int (x8) x9), e P "__init__" x10 (r x11), e P "parts" x12 (r x13), e P "with_parts" x14 (r x15), e P "__static_attributes__" x16 (r x17)].toArray 8), [].toArray⟩
noncomputable abbrev T33 (x0 x1 x2 x3 x4 x5 : Nat) : Obj := ⟨.none, none, (.fields [(i x0), (i 4), (r x1), (i x2), (i 4), (r x3), (i x4), (i 4), (r x5)].toArray), [].toArray⟩
noncomputable abbrev T34 (P : Params) (x0 x1 x2 x3 x4 x5 x6 x7 x8 x9 x10 x11 x12 x13 x14 x15 : Nat) : Obj := ⟨(t "dict"), none, (.dict [e P "__module__" x0 (s "scheme.core" 831), e P "__firstlineno__" x1 (.int (x2) x3), e P "kind" x4 (.int (x5) x6), e P "__init__" x7 (r x8), e P "parts" x9 (r x10), e P "with_parts" x11 (r x12), e P "__static_attributes__" x13 (r x14), e P "__doc__" x15 .none].toArray 2), [].toArray⟩
noncomputable abbrev T35 (x0 x1 x2 x3 x4 x5 x6 x7 x8 x9 : Nat) : Obj := ⟨.none, none, (.fields [(i x0), (i 4), (r x1), (i x2), (i 4), (r x3), (i x4), (i 4), (r x5), (i x6), (i 4), (r x7), (i x8), (i 4), (r x9)].toArray), [].toArray⟩
noncomputable abbrev T36 (P : Params) (x0 x1 x3 x4 x5 x6 x7 x8 x10 x11 x12 x13 : Nat) (x2 x9 : String) : Obj := ⟨(t "dict"), none, (.dict [e P "__module__" x0 (s "scheme.interpret" 1209), e P "__qualname__" x1 (s x2 x3), e P "__firstlineno__" x4 (.int (x5) x6), e P "__init__" x7 (r x8), e P x9 x10 (r x11), e P "__static_attributes__" x12 (r x13)].toArray 6), [].toArray⟩
noncomputable abbrev T37 (x1 x2 x3 x4 x5 x6 x7 x8 x9 : Nat) (x0 : String) : Obj := ⟨(t "code"), none, (.fields [(s x0 x1), (s x0 x2), (s "/claim/cut.py" x3), (i x4), (i 1), (i 0), (i 0), (i 3), (r x5), (.bool true), (i 181), (r x6), .none, .none, .none, (r x7), (i x8), (i x4), (s "/claim/cut.py" x9)].toArray), [].toArray⟩
noncomputable def o11 : Obj := ⟨(t "tuple"), none, (.seq [].toArray 0), [].toArray⟩
noncomputable def o12 : Obj := ⟨.none, none, (.fields [(i 1), (i 0), (r 20), (i 5), (i 0), (r 27), (i 12), (i 0), (r 57), (i 17), (i 0), (r 78), (i 45), (i 0), (r 141), (i 50), (i 0), (r 162), (i 54), (i 0), (r 183), (i 59), (i 0), (r 203), (i 64), (i 0), (r 210), (i 67), (i 0), (r 217), (i 72), (i 0), (r 237), (i 77), (i 0), (r 256), (i 81), (i 0), (r 275), (i 86), (i 0), (r 294), (i 92), (i 0), (r 313), (i 97), (i 0), (r 332), (i 104), (i 0), (r 351), (i 109), (i 0), (r 370), (i 113), (i 0), (r 390), (i 124), (i 0), (r 415), (i 129), (i 0), (r 434), (i 133), (i 0), (r 441), (i 135), (i 0), (r 448), (i 137), (i 0), (r 455), (i 141), (i 0), (r 462), (i 153), (i 0), (r 469), (i 172), (i 0), (r 476), (i 180), (i 0), (r 504), (i 185), (i 0), (r 523), (i 190), (i 0), (r 542), (i 195), (i 0), (r 561), (i 208), (i 0), (r 594), (i 228), (i 0), (r 641), (i 240), (i 0), (r 674), (i 251), (i 0), (r 707), (i 274), (i 0), (r 740), (i 295), (i 0), (r 789), (i 303), (i 0), (r 817), (i 310), (i 0), (r 824), (i 319), (i 0), (r 845), (i 329), (i 0), (r 871), (i 334), (i 0), (r 890), (i 344), (i 0), (r 897), (i 354), (i 0), (r 932), (i 561), (i 0), (r 1098), (i 566), (i 0), (r 1105), (i 575), (i 0), (r 1112), (i 577), (i 0), (r 1119), (i 580), (i 0), (r 1126), (i 594), (i 0), (r 1133), (i 604), (i 0), (r 1140), (i 616), (i 0), (r 1147), (i 625), (i 0), (r 1152)].toArray), [].toArray⟩
noncomputable def o13 : Obj := T0 182 183 184 1 11 12 185 186 "<module>"
noncomputable def o14 : Obj := T1 13 3 164 "__main__"
noncomputable def o16 : Obj := ⟨.none, none, (.fields [].toArray), [].toArray⟩
noncomputable def o17 : Obj := T2 190 "k"
noncomputable def o19 : Obj := T3 0 "_wall"
noncomputable def o20 : Obj := T4 187 188 189 1 1 15 16 17 18 19 191 192 "_wall" "_wall"
noncomputable def o21 : Obj := T5 0 164 20 "_wall" "__main__"
noncomputable def o23 : Obj := ⟨(t "builtin_function_or_method"), none, (.fields [(b "type.__prepare__"), (t "type")].toArray), [].toArray⟩
noncomputable def o24 (P : Params) : Obj := T6 P 203 194 205 204 207 5 206 215 35 217 36 "scheme.data" "Special"
noncomputable def o26 : Obj := T7 7 34
noncomputable def o27 : Obj := T0 198 199 200 5 25 26 201 202 "Special"
noncomputable def o28 : Obj := T1 27 24 194 "scheme.data"
noncomputable def o31 : Obj := T8 211 212 "self" "title"
noncomputable def o33 : Obj := T9 2 0 "__init__" "Special.__init__"
noncomputable def o34 : Obj := T4 208 209 210 7 2 29 30 31 32 33 213 214 "__init__" "Special.__init__"
noncomputable def o35 : Obj := T10 2 0 194 34 "__init__" "Special.__init__" "scheme.data"
noncomputable def o36 : Obj := T2 216 "title"
noncomputable def o37 (P : Params) : Obj := T11 P 203 194 207 5 206 215 35 217 36 219 39 221 40 222 "scheme.data"
noncomputable def o38 : Obj := T12 38 37 196 204 "Special"
noncomputable def o39 : Obj := T13 218 38
noncomputable def o40 : Obj := T14 220 38
noncomputable def o41 : Obj := T15 38
noncomputable def o42 : Obj := T16 38
noncomputable def o43 (P : Params) : Obj := T17 P 229 225 "empty"
noncomputable def o44 : Obj := T18 43
noncomputable def o45 (P : Params) : Obj := T19 P 226 44 227 225 "empty"
noncomputable def o46 (P : Params) : Obj := T17 P 235 231 "unspecified"
noncomputable def o47 : Obj := T18 46
noncomputable def o48 (P : Params) : Obj := T19 P 232 47 233 231 "unspecified"
noncomputable def o49 (P : Params) : Obj := T17 P 241 237 "unassigned"
noncomputable def o50 : Obj := T18 49
noncomputable def o51 (P : Params) : Obj := T19 P 238 50 239 237 "unassigned"
noncomputable def o54 (P : Params) : Obj := T6 P 250 194 252 251 254 12 253 263 65 266 66 "scheme.data" "Symbol"
noncomputable def o56 : Obj := T7 14 64
noncomputable def o57 : Obj := T0 245 246 247 12 55 56 248 249 "Symbol"
noncomputable def o58 : Obj := T1 57 54 194 "scheme.data"
noncomputable def o61 : Obj := T20 258 259 260 "self" "number" "text"
noncomputable def o63 : Obj := T9 6 0 "__init__" "Symbol.__init__"
noncomputable def o64 : Obj := T4 255 256 257 14 3 59 60 61 62 63 261 262 "__init__" "Symbol.__init__"
noncomputable def o65 : Obj := T10 6 0 194 64 "__init__" "Symbol.__init__" "scheme.data"
noncomputable def o66 : Obj := T8 264 265 "number" "text"
noncomputable def o67 (P : Params) : Obj := T11 P 250 194 254 12 253 263 65 266 66 268 69 270 70 271 "scheme.data"
noncomputable def o68 : Obj := T12 68 67 243 251 "Symbol"
noncomputable def o69 : Obj := T13 267 68
noncomputable def o70 : Obj := T14 269 68
noncomputable def o71 : Obj := T15 68
noncomputable def o72 : Obj := T16 68
noncomputable def o75 (P : Params) : Obj := ⟨(t "dict"), none, (.dict [e P "__module__" 281 (s "scheme.data" 194), e P "__qualname__" 283 (s "SymbolTable" 282), e P "__firstlineno__" 285 (.int (17) 284), e P "__init__" 292 (r 86), e P "symbol" 301 (r 93), e P "fresh" 309 (r 100), e P "by_number" 317 (r 107), e P "find" 325 (r 114), e P "is_interned" 333 (r 121), e P "size" 340 (r 128), e P "__static_attributes__" 343 (r 129)].toArray 11), [].toArray⟩
noncomputable def o77 : Obj := ⟨.none, none, (.fields [(i 19), (i 4), (r 85), (i 23), (i 4), (r 92), (i 31), (i 4), (r 99), (i 34), (i 4), (r 106), (i 37), (i 4), (r 113), (i 40), (i 4), (r 120), (i 43), (i 4), (r 127)].toArray), [].toArray⟩
noncomputable def o78 : Obj := T0 276 277 278 17 76 77 279 280 "SymbolTable"
noncomputable def o79 : Obj := T1 78 75 194 "scheme.data"
noncomputable def o82 : Obj := T2 289 "self"
noncomputable def o84 : Obj := T9 7 0 "__init__" "SymbolTable.__init__"
noncomputable def o85 : Obj := T4 286 287 288 19 1 80 81 82 83 84 290 291 "__init__" "SymbolTable.__init__"
noncomputable def o86 : Obj := T10 7 0 194 85 "__init__" "SymbolTable.__init__" "scheme.data"
noncomputable def o89 : Obj := T20 296 297 298 "self" "text" "found"
noncomputable def o91 : Obj := T9 7 1 "symbol" "SymbolTable.symbol"
noncomputable def o92 : Obj := T4 293 294 295 23 2 87 88 89 90 91 299 300 "symbol" "SymbolTable.symbol"
noncomputable def o93 : Obj := T10 7 1 194 92 "symbol" "SymbolTable.symbol" "scheme.data"
noncomputable def o96 : Obj := T8 305 306 "self" "hint"
noncomputable def o98 : Obj := T9 7 2 "fresh" "SymbolTable.fresh"
noncomputable def o99 : Obj := T4 302 303 304 31 2 94 95 96 97 98 307 308 "fresh" "SymbolTable.fresh"
noncomputable def o100 : Obj := T10 7 2 194 99 "fresh" "SymbolTable.fresh" "scheme.data"
noncomputable def o103 : Obj := T8 313 314 "self" "number"
noncomputable def o105 : Obj := T9 7 3 "by_number" "SymbolTable.by_number"
noncomputable def o106 : Obj := T4 310 311 312 34 2 101 102 103 104 105 315 316 "by_number" "SymbolTable.by_number"
noncomputable def o107 : Obj := T10 7 3 194 106 "by_number" "SymbolTable.by_number" "scheme.data"
noncomputable def o110 : Obj := T8 321 322 "self" "text"
noncomputable def o112 : Obj := T9 7 4 "find" "SymbolTable.find"
noncomputable def o113 : Obj := T4 318 319 320 37 2 108 109 110 111 112 323 324 "find" "SymbolTable.find"
noncomputable def o114 : Obj := T10 7 4 194 113 "find" "SymbolTable.find" "scheme.data"
noncomputable def o117 : Obj := T8 329 330 "self" "symbol"
noncomputable def o119 : Obj := T9 7 5 "is_interned" "SymbolTable.is_interned"
noncomputable def o120 : Obj := T4 326 327 328 40 2 115 116 117 118 119 331 332 "is_interned" "SymbolTable.is_interned"
noncomputable def o121 : Obj := T10 7 5 194 120 "is_interned" "SymbolTable.is_interned" "scheme.data"
noncomputable def o124 : Obj := T2 337 "self"
noncomputable def o126 : Obj := T9 7 6 "size" "SymbolTable.size"
noncomputable def o127 : Obj := T4 334 335 336 43 1 122 123 124 125 126 338 339 "size" "SymbolTable.size"
noncomputable def o128 : Obj := T10 7 6 194 127 "size" "SymbolTable.size" "scheme.data"
noncomputable def o129 : Obj := T8 341 342 "by_text" "rows"
noncomputable def o130 (P : Params) : Obj := ⟨(t "dict"), none, (.dict [e P "__module__" 281 (s "scheme.data" 194), e P "__firstlineno__" 285 (.int (17) 284), e P "__init__" 292 (r 86), e P "symbol" 301 (r 93), e P "fresh" 309 (r 100), e P "by_number" 317 (r 107), e P "find" 325 (r 114), e P "is_interned" 333 (r 121), e P "size" 340 (r 128), e P "__static_attributes__" 343 (r 129), e P "__dict__" 345 (r 132), e P "__weakref__" 347 (r 133), e P "__doc__" 348 .none].toArray 4), [].toArray⟩
noncomputable def o131 : Obj := T12 131 130 274 282 "SymbolTable"
noncomputable def o132 : Obj := T13 344 131
noncomputable def o133 : Obj := T14 346 131
noncomputable def o134 : Obj := T15 131
noncomputable def o135 : Obj := T16 131
noncomputable def o138 (P : Params) : Obj := T6 P 358 194 360 359 362 45 361 371 149 374 150 "scheme.data" "Pair"
noncomputable def o140 : Obj := T7 47 148
noncomputable def o141 : Obj := T0 353 354 355 45 139 140 356 357 "Pair"
noncomputable def o142 : Obj := T1 141 138 194 "scheme.data"
noncomputable def o145 : Obj := T20 366 367 368 "self" "car" "cdr"
noncomputable def o147 : Obj := T9 8 0 "__init__" "Pair.__init__"
noncomputable def o148 : Obj := T4 363 364 365 47 3 143 144 145 146 147 369 370 "__init__" "Pair.__init__"
noncomputable def o149 : Obj := T10 8 0 194 148 "__init__" "Pair.__init__" "scheme.data"
noncomputable def o150 : Obj := T8 372 373 "car" "cdr"
noncomputable def o151 (P : Params) : Obj := T11 P 358 194 362 45 361 371 149 374 150 376 153 378 154 379 "scheme.data"
noncomputable def o152 : Obj := T12 152 151 351 359 "Pair"
noncomputable def o153 : Obj := T13 375 152
noncomputable def o154 : Obj := T14 377 152
noncomputable def o155 : Obj := T15 152
noncomputable def o156 : Obj := T16 152
noncomputable def o159 (P : Params) : Obj := T6 P 389 194 391 390 393 50 392 401 170 403 171 "scheme.data" "Procedure"
noncomputable def o161 : Obj := T7 52 169
noncomputable def o162 : Obj := T0 384 385 386 50 160 161 387 388 "Procedure"
noncomputable def o163 : Obj := T1 162 159 194 "scheme.data"
noncomputable def o166 : Obj := T8 397 398 "self" "title"
noncomputable def o168 : Obj := T9 9 0 "__init__" "Procedure.__init__"
noncomputable def o169 : Obj := T4 394 395 396 52 2 164 165 166 167 168 399 400 "__init__" "Procedure.__init__"
noncomputable def o170 : Obj := T10 9 0 194 169 "__init__" "Procedure.__init__" "scheme.data"
noncomputable def o171 : Obj := T2 402 "title"
noncomputable def o172 (P : Params) : Obj := T11 P 389 194 393 50 392 401 170 403 171 405 174 407 175 408 "scheme.data"
noncomputable def o173 : Obj := ⟨(t "type"), none, (.cls (cd "Procedure" [(t "object")] [(r 173), (t "object")] 172 "Procedure" true [(r 194), (r 426), (r 863), (r 882)] false false)), [none, none, (some (s "Procedure" 382)), (some (s "Procedure" 390)), (some (b "object.__new__")), (some (.bool true))].toArray⟩
noncomputable def o174 : Obj := T13 404 173
noncomputable def o175 : Obj := T14 406 173
noncomputable def o176 : Obj := T15 173
noncomputable def o177 : Obj := T16 173
noncomputable def o178 : Obj := T21 173
noncomputable def o180 (P : Params) : Obj := T6 P 418 194 420 419 422 54 421 431 191 433 192 "scheme.data" "Primitive"
noncomputable def o182 : Obj := T7 56 190
noncomputable def o183 : Obj := T0 413 414 415 54 181 182 416 417 "Primitive"
noncomputable def o184 : Obj := T1 183 180 194 "scheme.data"
noncomputable def o187 : Obj := T20 426 427 428 "self" "op" "title"
noncomputable def o189 : Obj := T9 10 0 "__init__" "Primitive.__init__"
noncomputable def o190 : Obj := T4 423 424 425 56 3 185 186 187 188 189 429 430 "__init__" "Primitive.__init__"
noncomputable def o191 : Obj := T10 10 0 194 190 "__init__" "Primitive.__init__" "scheme.data"
noncomputable def o192 : Obj := T2 432 "op"
noncomputable def o193 (P : Params) : Obj := T22 P 418 194 422 54 421 431 191 433 192 434 "scheme.data"
noncomputable def o194 : Obj := T23 173 194 193 178 411 419 "Primitive"
noncomputable def o195 : Obj := T15 194
noncomputable def o196 : Obj := T16 194
noncomputable def o197 : Obj := T21 44
noncomputable def o200 : Obj := T24 440 441 442 443 "things" "tail" "found" "place"
noncomputable def o202 : Obj := T3 11 "list_of"
noncomputable def o203 : Obj := T4 437 438 439 59 2 198 199 200 201 202 444 445 "list_of" "list_of"
noncomputable def o204 : Obj := ⟨(t "function"), none, (.func (fd (at1 11) "list_of" "list_of" 3 (r 197) .none .none (s "scheme.data" 194) (r 203) .none 0)), [].toArray⟩
noncomputable def o207 : Obj := T2 450 "datum"
noncomputable def o209 : Obj := T3 12 "is_true"
noncomputable def o210 : Obj := T4 447 448 449 64 1 205 206 207 208 209 451 452 "is_true" "is_true"
noncomputable def o211 : Obj := T5 12 194 210 "is_true" "scheme.data"
noncomputable def o212 : Obj := ⟨(t "tuple"), none, (.seq [(t "Exception")].toArray 0), [].toArray⟩
noncomputable def o214 (P : Params) : Obj := T6 P 463 454 465 464 467 67 466 476 225 479 226 "scheme.errors" "SchemeError"
noncomputable def o216 : Obj := T7 69 224
noncomputable def o217 : Obj := T0 458 459 460 67 215 216 461 462 "SchemeError"
noncomputable def o218 : Obj := T1 217 214 454 "scheme.errors"
noncomputable def o221 : Obj := T20 471 472 473 "self" "word" "irritants"
noncomputable def o223 : Obj := T9 14 0 "__init__" "SchemeError.__init__"
noncomputable def o224 : Obj := T4 468 469 470 69 3 219 220 221 222 223 474 475 "__init__" "SchemeError.__init__"
noncomputable def o225 : Obj := T10 14 0 454 224 "__init__" "SchemeError.__init__" "scheme.errors"
noncomputable def o226 : Obj := T8 477 478 "irritants" "word"
noncomputable def o227 (P : Params) : Obj := T25 P 463 454 467 67 466 476 225 479 226 481 229 482 3 "scheme.errors" "__static_attributes__" "__weakref__"
noncomputable def o228 : Obj := ⟨(t "type"), none, (.cls (cd "SchemeError" [(t "Exception")] [(r 228), (t "Exception"), (t "BaseException"), (t "object")] 227 "SchemeError" true [(r 248), (r 267), (r 286), (r 305), (r 324), (r 343), (r 362)] false false)), [(some (r 212)), none, (some (s "SchemeError" 456)), (some (s "SchemeError" 464)), (some (b "Exception.__new__")), (some (.bool true))].toArray⟩
noncomputable def o229 : Obj := T14 480 228
noncomputable def o230 : Obj := T15 228
noncomputable def o231 : Obj := T16 228
noncomputable def o232 : Obj := T21 228
noncomputable def o234 (P : Params) : Obj := T6 P 494 454 496 495 498 72 497 506 245 508 246 "scheme.errors" "Unbound"
noncomputable def o236 : Obj := T7 74 244
noncomputable def o237 : Obj := T0 489 490 491 72 235 236 492 493 "Unbound"
noncomputable def o238 : Obj := T1 237 234 454 "scheme.errors"
noncomputable def o241 : Obj := T8 502 503 "self" "text"
noncomputable def o243 : Obj := T9 15 0 "__init__" "Unbound.__init__"
noncomputable def o244 : Obj := T4 499 500 501 74 2 239 240 241 242 243 504 505 "__init__" "Unbound.__init__"
noncomputable def o245 : Obj := T10 15 0 454 244 "__init__" "Unbound.__init__" "scheme.errors"
noncomputable def o246 : Obj := T2 507 "text"
noncomputable def o247 (P : Params) : Obj := T22 P 494 454 498 72 497 506 245 508 246 509 "scheme.errors"
noncomputable def o248 : Obj := T26 248 247 232 487 495 "Unbound"
noncomputable def o249 : Obj := T15 248
noncomputable def o250 : Obj := T16 248
noncomputable def o253 (P : Params) : Obj := T6 P 519 454 521 520 523 77 522 530 264 531 265 "scheme.errors" "Unassigned"
noncomputable def o255 : Obj := T7 79 263
noncomputable def o256 : Obj := T0 514 515 516 77 254 255 517 518 "Unassigned"
noncomputable def o257 : Obj := T1 256 253 454 "scheme.errors"
noncomputable def o260 : Obj := T2 527 "self"
noncomputable def o262 : Obj := T9 16 0 "__init__" "Unassigned.__init__"
noncomputable def o263 : Obj := T4 524 525 526 79 1 258 259 260 261 262 528 529 "__init__" "Unassigned.__init__"
noncomputable def o264 : Obj := T10 16 0 454 263 "__init__" "Unassigned.__init__" "scheme.errors"
noncomputable def o266 (P : Params) : Obj := T22 P 519 454 523 77 522 530 264 531 265 532 "scheme.errors"
noncomputable def o267 : Obj := T26 267 266 251 512 520 "Unassigned"
noncomputable def o268 : Obj := T15 267
noncomputable def o269 : Obj := T16 267
noncomputable def o272 (P : Params) : Obj := T6 P 542 454 544 543 546 81 545 554 283 556 284 "scheme.errors" "NotProcedure"
noncomputable def o274 : Obj := T7 83 282
noncomputable def o275 : Obj := T0 537 538 539 81 273 274 540 541 "NotProcedure"
noncomputable def o276 : Obj := T1 275 272 454 "scheme.errors"
noncomputable def o279 : Obj := T8 550 551 "self" "datum"
noncomputable def o281 : Obj := T9 17 0 "__init__" "NotProcedure.__init__"
noncomputable def o282 : Obj := T4 547 548 549 83 2 277 278 279 280 281 552 553 "__init__" "NotProcedure.__init__"
noncomputable def o283 : Obj := T10 17 0 454 282 "__init__" "NotProcedure.__init__" "scheme.errors"
noncomputable def o284 : Obj := T2 555 "datum"
noncomputable def o285 (P : Params) : Obj := T22 P 542 454 546 81 545 554 283 556 284 557 "scheme.errors"
noncomputable def o286 : Obj := T26 286 285 270 535 543 "NotProcedure"
noncomputable def o287 : Obj := T15 286
noncomputable def o288 : Obj := T16 286
noncomputable def o291 (P : Params) : Obj := T6 P 567 454 569 568 571 86 570 580 302 583 303 "scheme.errors" "WrongArity"
noncomputable def o293 : Obj := T7 88 301
noncomputable def o294 : Obj := T0 562 563 564 86 292 293 565 566 "WrongArity"
noncomputable def o295 : Obj := T1 294 291 454 "scheme.errors"
noncomputable def o298 : Obj := T20 575 576 577 "self" "title" "many"
noncomputable def o300 : Obj := T9 18 0 "__init__" "WrongArity.__init__"
noncomputable def o301 : Obj := T4 572 573 574 88 3 296 297 298 299 300 578 579 "__init__" "WrongArity.__init__"
noncomputable def o302 : Obj := T10 18 0 454 301 "__init__" "WrongArity.__init__" "scheme.errors"
noncomputable def o303 : Obj := T8 581 582 "many" "title"
noncomputable def o304 (P : Params) : Obj := T22 P 567 454 571 86 570 580 302 583 303 584 "scheme.errors"
noncomputable def o305 : Obj := T26 305 304 289 560 568 "WrongArity"
noncomputable def o306 : Obj := T15 305
noncomputable def o307 : Obj := T16 305
noncomputable def o310 (P : Params) : Obj := T6 P 594 454 596 595 598 92 597 606 321 608 322 "scheme.errors" "WrongValues"
noncomputable def o312 : Obj := T7 94 320
noncomputable def o313 : Obj := T0 589 590 591 92 311 312 592 593 "WrongValues"
noncomputable def o314 : Obj := T1 313 310 454 "scheme.errors"
noncomputable def o317 : Obj := T8 602 603 "self" "many"
noncomputable def o319 : Obj := T9 19 0 "__init__" "WrongValues.__init__"
noncomputable def o320 : Obj := T4 599 600 601 94 2 315 316 317 318 319 604 605 "__init__" "WrongValues.__init__"
noncomputable def o321 : Obj := T10 19 0 454 320 "__init__" "WrongValues.__init__" "scheme.errors"
noncomputable def o322 : Obj := T2 607 "many"
noncomputable def o323 (P : Params) : Obj := T22 P 594 454 598 92 597 606 321 608 322 609 "scheme.errors"
noncomputable def o324 : Obj := T26 324 323 308 587 595 "WrongValues"
noncomputable def o325 : Obj := T15 324
noncomputable def o326 : Obj := T16 324
noncomputable def o329 (P : Params) : Obj := T6 P 619 454 621 620 623 97 622 633 340 637 341 "scheme.errors" "WrongKind"
noncomputable def o331 : Obj := T7 99 339
noncomputable def o332 : Obj := T0 614 615 616 97 330 331 617 618 "WrongKind"
noncomputable def o333 : Obj := T1 332 329 454 "scheme.errors"
noncomputable def o336 : Obj := T24 627 628 629 630 "self" "name" "place" "datum"
noncomputable def o338 : Obj := T9 20 0 "__init__" "WrongKind.__init__"
noncomputable def o339 : Obj := T4 624 625 626 99 4 334 335 336 337 338 631 632 "__init__" "WrongKind.__init__"
noncomputable def o340 : Obj := T10 20 0 454 339 "__init__" "WrongKind.__init__" "scheme.errors"
noncomputable def o341 : Obj := T20 634 635 636 "datum" "name" "place"
noncomputable def o342 (P : Params) : Obj := T22 P 619 454 623 97 622 633 340 637 341 638 "scheme.errors"
noncomputable def o343 : Obj := T26 343 342 327 612 620 "WrongKind"
noncomputable def o344 : Obj := T15 343
noncomputable def o345 : Obj := T16 343
noncomputable def o348 (P : Params) : Obj := T6 P 648 454 650 649 652 104 651 660 359 662 360 "scheme.errors" "OutOfSteps"
noncomputable def o350 : Obj := T7 106 358
noncomputable def o351 : Obj := T0 643 644 645 104 349 350 646 647 "OutOfSteps"
noncomputable def o352 : Obj := T1 351 348 454 "scheme.errors"
noncomputable def o355 : Obj := T8 656 657 "self" "steps"
noncomputable def o357 : Obj := T9 21 0 "__init__" "OutOfSteps.__init__"
noncomputable def o358 : Obj := T4 653 654 655 106 2 353 354 355 356 357 658 659 "__init__" "OutOfSteps.__init__"
noncomputable def o359 : Obj := T10 21 0 454 358 "__init__" "OutOfSteps.__init__" "scheme.errors"
noncomputable def o360 : Obj := T2 661 "steps"
noncomputable def o361 (P : Params) : Obj := T22 P 648 454 652 104 651 660 359 662 360 663 "scheme.errors"
noncomputable def o362 : Obj := T26 362 361 346 641 649 "OutOfSteps"
noncomputable def o363 : Obj := T15 362
noncomputable def o364 : Obj := T16 362
noncomputable def o367 (P : Params) : Obj := T6 P 673 454 675 674 677 109 676 685 378 687 379 "scheme.errors" "MachineFault"
noncomputable def o369 : Obj := T7 111 377
noncomputable def o370 : Obj := T0 668 669 670 109 368 369 671 672 "MachineFault"
noncomputable def o371 : Obj := T1 370 367 454 "scheme.errors"
noncomputable def o374 : Obj := T8 681 682 "self" "word"
noncomputable def o376 : Obj := T9 22 0 "__init__" "MachineFault.__init__"
noncomputable def o377 : Obj := T4 678 679 680 111 2 372 373 374 375 376 683 684 "__init__" "MachineFault.__init__"
noncomputable def o378 : Obj := T10 22 0 454 377 "__init__" "MachineFault.__init__" "scheme.errors"
noncomputable def o379 : Obj := T2 686 "word"
noncomputable def o380 (P : Params) : Obj := T25 P 673 454 677 109 676 685 378 687 379 689 382 690 3 "scheme.errors" "__static_attributes__" "__weakref__"
noncomputable def o381 : Obj := T27 381 380 365 666 674 "MachineFault"
noncomputable def o382 : Obj := T14 688 381
noncomputable def o383 : Obj := T15 381
noncomputable def o384 : Obj := T16 381
noncomputable def o387 (P : Params) : Obj := T6 P 702 454 704 703 706 113 705 715 398 718 399 "scheme.errors" "CoreError"
noncomputable def o389 : Obj := T7 115 397
noncomputable def o390 : Obj := T0 697 698 699 113 388 389 700 701 "CoreError"
noncomputable def o391 : Obj := T1 390 387 454 "scheme.errors"
noncomputable def o394 : Obj := T20 710 711 712 "self" "what" "number"
noncomputable def o396 : Obj := T9 23 0 "__init__" "CoreError.__init__"
noncomputable def o397 : Obj := T4 707 708 709 115 3 392 393 394 395 396 713 714 "__init__" "CoreError.__init__"
noncomputable def o398 : Obj := T10 23 0 454 397 "__init__" "CoreError.__init__" "scheme.errors"
noncomputable def o399 : Obj := T8 716 717 "number" "what"
noncomputable def o400 (P : Params) : Obj := T25 P 702 454 706 113 705 715 398 718 399 720 402 721 3 "scheme.errors" "__static_attributes__" "__weakref__"
noncomputable def o401 : Obj := T27 401 400 385 695 703 "CoreError"
noncomputable def o402 : Obj := T14 719 401
noncomputable def o403 : Obj := T15 401
noncomputable def o404 : Obj := T16 401
noncomputable def o405 : Obj := ⟨(t "tuple"), none, (.seq [(s "apply" 736), (.int (2) 737), (.int (-1) 739)].toArray 0), [].toArray⟩
noncomputable def o406 : Obj := ⟨(t "tuple"), none, (.seq [(s "values" 740), (.int (0) 741), (.int (-1) 743)].toArray 0), [].toArray⟩
noncomputable def o407 : Obj := ⟨(t "tuple"), none, (.seq [(s "call-with-values" 744), (.int (2) 745), (.int (2) 746)].toArray 0), [].toArray⟩
noncomputable def o408 : Obj := ⟨(t "tuple"), none, (.seq [(s "%call/cc" 747), (.int (1) 748), (.int (1) 749)].toArray 0), [].toArray⟩
noncomputable def o409 : Obj := ⟨(t "tuple"), none, (.seq [(r 405), (r 406), (r 407), (r 408)].toArray 0), [].toArray⟩
noncomputable def o412 (P : Params) : Obj := T6 P 758 726 760 759 762 124 761 770 423 772 424 "scheme.control" "ControlPrimitive"
noncomputable def o414 : Obj := T7 126 422
noncomputable def o415 : Obj := T0 753 754 755 124 413 414 756 757 "ControlPrimitive"
noncomputable def o416 : Obj := T1 415 412 726 "scheme.control"
noncomputable def o419 : Obj := T8 766 767 "self" "word"
noncomputable def o421 : Obj := T9 30 0 "__init__" "ControlPrimitive.__init__"
noncomputable def o422 : Obj := T4 763 764 765 126 2 417 418 419 420 421 768 769 "__init__" "ControlPrimitive.__init__"
noncomputable def o423 : Obj := T10 30 0 726 422 "__init__" "ControlPrimitive.__init__" "scheme.control"
noncomputable def o424 : Obj := T2 771 "word"
noncomputable def o425 (P : Params) : Obj := T22 P 758 726 762 124 761 770 423 772 424 773 "scheme.control"
noncomputable def o426 : Obj := T23 173 426 425 410 751 759 "ControlPrimitive"
noncomputable def o427 : Obj := T15 426
noncomputable def o428 : Obj := T16 426
noncomputable def o431 : Obj := T2 779 "word"
noncomputable def o433 : Obj := T3 31 "control_row"
noncomputable def o434 : Obj := T4 776 777 778 129 1 429 430 431 432 433 780 781 "control_row" "control_row"
noncomputable def o435 : Obj := T5 31 726 434 "control_row" "scheme.control"
noncomputable def o438 : Obj := T2 786 "word"
noncomputable def o440 : Obj := T3 32 "control_name"
noncomputable def o441 : Obj := T4 783 784 785 133 1 436 437 438 439 440 787 788 "control_name" "control_name"
noncomputable def o442 : Obj := T5 32 726 441 "control_name" "scheme.control"
noncomputable def o445 : Obj := T20 793 794 795 "many" "least" "most"
noncomputable def o447 : Obj := T3 33 "count_fits"
noncomputable def o448 : Obj := T4 790 791 792 135 3 443 444 445 446 447 796 797 "count_fits" "count_fits"
noncomputable def o449 : Obj := T5 33 726 448 "count_fits" "scheme.control"
noncomputable def o452 : Obj := T28 802 803 804 805 806 "word" "many" "name" "least" "most"
noncomputable def o454 : Obj := T3 34 "check_control"
noncomputable def o455 : Obj := T4 799 800 801 137 2 450 451 452 453 454 807 808 "check_control" "check_control"
noncomputable def o456 : Obj := T5 34 726 455 "check_control" "scheme.control"
noncomputable def o459 : Obj := T28 813 814 815 816 817 "store" "value" "items" "slow" "here"
noncomputable def o461 : Obj := T3 35 "list_values"
noncomputable def o462 : Obj := T4 810 811 812 141 2 457 458 459 460 461 818 819 "list_values" "list_values"
noncomputable def o463 : Obj := T5 35 726 462 "list_values" "scheme.control"
noncomputable def o466 : Obj := T24 824 825 826 827 "store" "operands" "place" "items"
noncomputable def o468 : Obj := T3 36 "spread"
noncomputable def o469 : Obj := T4 821 822 823 153 2 464 465 466 467 468 828 829 "spread" "spread"
noncomputable def o470 : Obj := T5 36 726 469 "spread" "scheme.control"
noncomputable def o473 (P : Params) : Obj := ⟨(t "dict"), none, (.dict [e P "__module__" 864 (s "scheme.core" 831), e P "__qualname__" 866 (s "Node" 865), e P "__firstlineno__" 868 (.int (172) 867), e P "kind" 871 (.int (-1) 870), e P "parts" 878 (r 484), e P "with_parts" 886 (r 491), e P "__static_attributes__" 887 (r 492)].toArray 7), [].toArray⟩
noncomputable def o475 : Obj := T29 175 483 178 490
noncomputable def o476 : Obj := T0 859 860 861 172 474 475 862 863 "Node"
noncomputable def o477 : Obj := T1 476 473 831 "scheme.core"
noncomputable def o480 : Obj := T2 875 "self"
noncomputable def o482 : Obj := T9 50 1 "parts" "Node.parts"
noncomputable def o483 : Obj := T4 872 873 874 175 1 478 479 480 481 482 876 877 "parts" "Node.parts"
noncomputable def o484 : Obj := T10 50 1 831 483 "parts" "Node.parts" "scheme.core"
noncomputable def o487 : Obj := T8 882 883 "self" "parts"
noncomputable def o489 : Obj := T9 50 2 "with_parts" "Node.with_parts"
noncomputable def o490 : Obj := T4 879 880 881 178 2 485 486 487 488 489 884 885 "with_parts" "Node.with_parts"
noncomputable def o491 : Obj := T10 50 2 831 490 "with_parts" "Node.with_parts" "scheme.core"
noncomputable def o493 (P : Params) : Obj := ⟨(t "dict"), none, (.dict [e P "__module__" 864 (s "scheme.core" 831), e P "__firstlineno__" 868 (.int (172) 867), e P "kind" 871 (.int (-1) 870), e P "parts" 878 (r 484), e P "with_parts" 886 (r 491), e P "__static_attributes__" 887 (r 492), e P "__dict__" 889 (r 495), e P "__weakref__" 891 (r 496), e P "__doc__" 892 .none].toArray 4), [].toArray⟩
noncomputable def o494 : Obj := ⟨(t "type"), none, (.cls (cd "Node" [(t "object")] [(r 494), (t "object")] 493 "Node" true [(r 515), (r 534), (r 553), (r 586), (r 633), (r 666), (r 699), (r 732)] false false)), [none, none, (some (s "Node" 857)), (some (s "Node" 865)), (some (b "object.__new__")), (some (.bool true))].toArray⟩
noncomputable def o495 : Obj := T13 888 494
noncomputable def o496 : Obj := T14 890 494
noncomputable def o497 : Obj := T15 494
noncomputable def o498 : Obj := T16 494
noncomputable def o499 : Obj := T21 494
noncomputable def o501 (P : Params) : Obj := T30 P 902 904 903 906 180 905 907 0 833 915 512 917 513 "Const"
noncomputable def o503 : Obj := T7 183 511
noncomputable def o504 : Obj := T0 897 898 899 180 502 503 900 901 "Const"
noncomputable def o505 : Obj := T1 504 501 831 "scheme.core"
noncomputable def o508 : Obj := T8 911 912 "self" "value"
noncomputable def o510 : Obj := T9 51 1 "__init__" "Const.__init__"
noncomputable def o511 : Obj := T4 908 909 910 183 2 506 507 508 509 510 913 914 "__init__" "Const.__init__"
noncomputable def o512 : Obj := T10 51 1 831 511 "__init__" "Const.__init__" "scheme.core"
noncomputable def o513 : Obj := T2 916 "value"
noncomputable def o514 (P : Params) : Obj := T31 P 902 906 180 905 907 0 833 915 512 917 513 918
noncomputable def o515 : Obj := T23 494 515 514 499 895 903 "Const"
noncomputable def o516 : Obj := T15 515
noncomputable def o517 : Obj := T16 515
noncomputable def o520 (P : Params) : Obj := T30 P 928 930 929 932 185 931 933 1 835 941 531 943 532 "Local"
noncomputable def o522 : Obj := T7 188 530
noncomputable def o523 : Obj := T0 923 924 925 185 521 522 926 927 "Local"
noncomputable def o524 : Obj := T1 523 520 831 "scheme.core"
noncomputable def o527 : Obj := T8 937 938 "self" "number"
noncomputable def o529 : Obj := T9 52 1 "__init__" "Local.__init__"
noncomputable def o530 : Obj := T4 934 935 936 188 2 525 526 527 528 529 939 940 "__init__" "Local.__init__"
noncomputable def o531 : Obj := T10 52 1 831 530 "__init__" "Local.__init__" "scheme.core"
noncomputable def o532 : Obj := T2 942 "number"
noncomputable def o533 (P : Params) : Obj := T31 P 928 932 185 931 933 1 835 941 531 943 532 944
noncomputable def o534 : Obj := T23 494 534 533 518 921 929 "Local"
noncomputable def o535 : Obj := T15 534
noncomputable def o536 : Obj := T16 534
noncomputable def o539 (P : Params) : Obj := T30 P 954 956 955 958 190 957 959 2 837 967 550 969 551 "Global"
noncomputable def o541 : Obj := T7 193 549
noncomputable def o542 : Obj := T0 949 950 951 190 540 541 952 953 "Global"
noncomputable def o543 : Obj := T1 542 539 831 "scheme.core"
noncomputable def o546 : Obj := T8 963 964 "self" "symbol"
noncomputable def o548 : Obj := T9 53 1 "__init__" "Global.__init__"
noncomputable def o549 : Obj := T4 960 961 962 193 2 544 545 546 547 548 965 966 "__init__" "Global.__init__"
noncomputable def o550 : Obj := T10 53 1 831 549 "__init__" "Global.__init__" "scheme.core"
noncomputable def o551 : Obj := T2 968 "symbol"
noncomputable def o552 (P : Params) : Obj := T31 P 954 958 190 957 959 2 837 967 550 969 551 970
noncomputable def o553 : Obj := T23 494 553 552 537 947 955 "Global"
noncomputable def o554 : Obj := T15 553
noncomputable def o555 : Obj := T16 553
noncomputable def o558 (P : Params) : Obj := T32 P 980 982 981 984 195 983 985 6 845 995 569 1002 576 1010 583 1014 584 "If"
noncomputable def o560 : Obj := T33 198 568 203 575 206 582
noncomputable def o561 : Obj := T0 975 976 977 195 559 560 978 979 "If"
noncomputable def o562 : Obj := T1 561 558 831 "scheme.core"
noncomputable def o565 : Obj := T24 989 990 991 992 "self" "test" "yes" "no"
noncomputable def o567 : Obj := T9 54 1 "__init__" "If.__init__"
noncomputable def o568 : Obj := T4 986 987 988 198 4 563 564 565 566 567 993 994 "__init__" "If.__init__"
noncomputable def o569 : Obj := T10 54 1 831 568 "__init__" "If.__init__" "scheme.core"
noncomputable def o572 : Obj := T2 999 "self"
noncomputable def o574 : Obj := T9 54 2 "parts" "If.parts"
noncomputable def o575 : Obj := T4 996 997 998 203 1 570 571 572 573 574 1000 1001 "parts" "If.parts"
noncomputable def o576 : Obj := T10 54 2 831 575 "parts" "If.parts" "scheme.core"
noncomputable def o579 : Obj := T8 1006 1007 "self" "parts"
noncomputable def o581 : Obj := T9 54 3 "with_parts" "If.with_parts"
noncomputable def o582 : Obj := T4 1003 1004 1005 206 2 577 578 579 580 581 1008 1009 "with_parts" "If.with_parts"
noncomputable def o583 : Obj := T10 54 3 831 582 "with_parts" "If.with_parts" "scheme.core"
noncomputable def o584 : Obj := T20 1011 1012 1013 "no" "test" "yes"
noncomputable def o585 (P : Params) : Obj := T34 P 980 984 195 983 985 6 845 995 569 1002 576 1010 583 1014 584 1015
noncomputable def o586 : Obj := T23 494 586 585 556 973 981 "If"
noncomputable def o587 : Obj := T15 586
noncomputable def o588 : Obj := T16 586
noncomputable def o591 (P : Params) : Obj := ⟨(t "dict"), none, (.dict [e P "__module__" 1025 (s "scheme.core" 831), e P "__qualname__" 1027 (s "Lambda" 1026), e P "__firstlineno__" 1029 (.int (208) 1028), e P "kind" 1030 (.int (7) 847), e P "__init__" 1041 (r 602), e P "parts" 1048 (r 609), e P "with_parts" 1056 (r 616), e P "binders" 1063 (r 623), e P "takes" 1071 (r 630), e P "__static_attributes__" 1076 (r 631)].toArray 10), [].toArray⟩
noncomputable def o593 : Obj := T35 211 601 217 608 220 615 223 622 226 629
noncomputable def o594 : Obj := T0 1020 1021 1022 208 592 593 1023 1024 "Lambda"
noncomputable def o595 : Obj := T1 594 591 831 "scheme.core"
noncomputable def o598 : Obj := T28 1034 1035 1036 1037 1038 "self" "label" "params" "rest" "body"
noncomputable def o600 : Obj := T9 55 1 "__init__" "Lambda.__init__"
noncomputable def o601 : Obj := T4 1031 1032 1033 211 5 596 597 598 599 600 1039 1040 "__init__" "Lambda.__init__"
noncomputable def o602 : Obj := T10 55 1 831 601 "__init__" "Lambda.__init__" "scheme.core"
noncomputable def o605 : Obj := T2 1045 "self"
noncomputable def o607 : Obj := T9 55 2 "parts" "Lambda.parts"
noncomputable def o608 : Obj := T4 1042 1043 1044 217 1 603 604 605 606 607 1046 1047 "parts" "Lambda.parts"
noncomputable def o609 : Obj := T10 55 2 831 608 "parts" "Lambda.parts" "scheme.core"
noncomputable def o612 : Obj := T8 1052 1053 "self" "parts"
noncomputable def o614 : Obj := T9 55 3 "with_parts" "Lambda.with_parts"
noncomputable def o615 : Obj := T4 1049 1050 1051 220 2 610 611 612 613 614 1054 1055 "with_parts" "Lambda.with_parts"
noncomputable def o616 : Obj := T10 55 3 831 615 "with_parts" "Lambda.with_parts" "scheme.core"
noncomputable def o619 : Obj := T2 1060 "self"
noncomputable def o621 : Obj := T9 55 4 "binders" "Lambda.binders"
noncomputable def o622 : Obj := T4 1057 1058 1059 223 1 617 618 619 620 621 1061 1062 "binders" "Lambda.binders"
noncomputable def o623 : Obj := T10 55 4 831 622 "binders" "Lambda.binders" "scheme.core"
noncomputable def o626 : Obj := T8 1067 1068 "self" "many"
noncomputable def o628 : Obj := T9 55 5 "takes" "Lambda.takes"
noncomputable def o629 : Obj := T4 1064 1065 1066 226 2 624 625 626 627 628 1069 1070 "takes" "Lambda.takes"
noncomputable def o630 : Obj := T10 55 5 831 629 "takes" "Lambda.takes" "scheme.core"
noncomputable def o631 : Obj := T24 1072 1073 1074 1075 "body" "label" "params" "rest"
noncomputable def o632 (P : Params) : Obj := ⟨(t "dict"), none, (.dict [e P "__module__" 1025 (s "scheme.core" 831), e P "__firstlineno__" 1029 (.int (208) 1028), e P "kind" 1030 (.int (7) 847), e P "__init__" 1041 (r 602), e P "parts" 1048 (r 609), e P "with_parts" 1056 (r 616), e P "binders" 1063 (r 623), e P "takes" 1071 (r 630), e P "__static_attributes__" 1076 (r 631), e P "__doc__" 1077 .none].toArray 2), [].toArray⟩
noncomputable def o633 : Obj := T23 494 633 632 589 1018 1026 "Lambda"
noncomputable def o634 : Obj := T15 633
noncomputable def o635 : Obj := T16 633
noncomputable def o638 (P : Params) : Obj := T32 P 1087 1089 1088 1091 228 1090 1092 8 849 1101 649 1108 656 1116 663 1119 664 "Call"
noncomputable def o640 : Obj := T33 231 648 235 655 238 662
noncomputable def o641 : Obj := T0 1082 1083 1084 228 639 640 1085 1086 "Call"
noncomputable def o642 : Obj := T1 641 638 831 "scheme.core"
noncomputable def o645 : Obj := T20 1096 1097 1098 "self" "operator" "operands"
noncomputable def o647 : Obj := T9 56 1 "__init__" "Call.__init__"
noncomputable def o648 : Obj := T4 1093 1094 1095 231 3 643 644 645 646 647 1099 1100 "__init__" "Call.__init__"
noncomputable def o649 : Obj := T10 56 1 831 648 "__init__" "Call.__init__" "scheme.core"
noncomputable def o652 : Obj := T2 1105 "self"
noncomputable def o654 : Obj := T9 56 2 "parts" "Call.parts"
noncomputable def o655 : Obj := T4 1102 1103 1104 235 1 650 651 652 653 654 1106 1107 "parts" "Call.parts"
noncomputable def o656 : Obj := T10 56 2 831 655 "parts" "Call.parts" "scheme.core"
noncomputable def o659 : Obj := T8 1112 1113 "self" "parts"
noncomputable def o661 : Obj := T9 56 3 "with_parts" "Call.with_parts"
noncomputable def o662 : Obj := T4 1109 1110 1111 238 2 657 658 659 660 661 1114 1115 "with_parts" "Call.with_parts"
noncomputable def o663 : Obj := T10 56 3 831 662 "with_parts" "Call.with_parts" "scheme.core"
noncomputable def o664 : Obj := T8 1117 1118 "operands" "operator"
noncomputable def o665 (P : Params) : Obj := T34 P 1087 1091 228 1090 1092 8 849 1101 649 1108 656 1116 663 1119 664 1120
noncomputable def o666 : Obj := T23 494 666 665 636 1080 1088 "Call"
noncomputable def o667 : Obj := T15 666
noncomputable def o668 : Obj := T16 666
noncomputable def o671 (P : Params) : Obj := T32 P 1130 1132 1131 1134 240 1133 1135 9 851 1143 682 1150 689 1158 696 1160 697 "Seq"
noncomputable def o673 : Obj := T33 243 681 246 688 249 695
noncomputable def o674 : Obj := T0 1125 1126 1127 240 672 673 1128 1129 "Seq"
noncomputable def o675 : Obj := T1 674 671 831 "scheme.core"
noncomputable def o678 : Obj := T8 1139 1140 "self" "items"
noncomputable def o680 : Obj := T9 57 1 "__init__" "Seq.__init__"
noncomputable def o681 : Obj := T4 1136 1137 1138 243 2 676 677 678 679 680 1141 1142 "__init__" "Seq.__init__"
noncomputable def o682 : Obj := T10 57 1 831 681 "__init__" "Seq.__init__" "scheme.core"
noncomputable def o685 : Obj := T2 1147 "self"
noncomputable def o687 : Obj := T9 57 2 "parts" "Seq.parts"
noncomputable def o688 : Obj := T4 1144 1145 1146 246 1 683 684 685 686 687 1148 1149 "parts" "Seq.parts"
noncomputable def o689 : Obj := T10 57 2 831 688 "parts" "Seq.parts" "scheme.core"
noncomputable def o692 : Obj := T8 1154 1155 "self" "parts"
noncomputable def o694 : Obj := T9 57 3 "with_parts" "Seq.with_parts"
noncomputable def o695 : Obj := T4 1151 1152 1153 249 2 690 691 692 693 694 1156 1157 "with_parts" "Seq.with_parts"
noncomputable def o696 : Obj := T10 57 3 831 695 "with_parts" "Seq.with_parts" "scheme.core"
noncomputable def o697 : Obj := T2 1159 "items"
noncomputable def o698 (P : Params) : Obj := T34 P 1130 1134 240 1133 1135 9 851 1143 682 1150 689 1158 696 1160 697 1161
noncomputable def o699 : Obj := T23 494 699 698 669 1123 1131 "Seq"
noncomputable def o700 : Obj := T15 699
noncomputable def o701 : Obj := T16 699
noncomputable def o704 (P : Params) : Obj := T32 P 1171 1173 1172 1175 251 1174 1176 11 855 1186 715 1193 722 1201 729 1205 730 "Fix"
noncomputable def o706 : Obj := T33 254 714 259 721 262 728
noncomputable def o707 : Obj := T0 1166 1167 1168 251 705 706 1169 1170 "Fix"
noncomputable def o708 : Obj := T1 707 704 831 "scheme.core"
noncomputable def o711 : Obj := T24 1180 1181 1182 1183 "self" "numbers" "lambdas" "body"
noncomputable def o713 : Obj := T9 58 1 "__init__" "Fix.__init__"
noncomputable def o714 : Obj := T4 1177 1178 1179 254 4 709 710 711 712 713 1184 1185 "__init__" "Fix.__init__"
noncomputable def o715 : Obj := T10 58 1 831 714 "__init__" "Fix.__init__" "scheme.core"
noncomputable def o718 : Obj := T2 1190 "self"
noncomputable def o720 : Obj := T9 58 2 "parts" "Fix.parts"
noncomputable def o721 : Obj := T4 1187 1188 1189 259 1 716 717 718 719 720 1191 1192 "parts" "Fix.parts"
noncomputable def o722 : Obj := T10 58 2 831 721 "parts" "Fix.parts" "scheme.core"
noncomputable def o725 : Obj := T8 1197 1198 "self" "parts"
noncomputable def o727 : Obj := T9 58 3 "with_parts" "Fix.with_parts"
noncomputable def o728 : Obj := T4 1194 1195 1196 262 2 723 724 725 726 727 1199 1200 "with_parts" "Fix.with_parts"
noncomputable def o729 : Obj := T10 58 3 831 728 "with_parts" "Fix.with_parts" "scheme.core"
noncomputable def o730 : Obj := T20 1202 1203 1204 "body" "lambdas" "numbers"
noncomputable def o731 (P : Params) : Obj := T34 P 1171 1175 251 1174 1176 11 855 1186 715 1193 722 1201 729 1205 730 1206
noncomputable def o732 : Obj := T23 494 732 731 702 1164 1172 "Fix"
noncomputable def o733 : Obj := T15 732
noncomputable def o734 : Obj := T16 732
noncomputable def o737 (P : Params) : Obj := ⟨(t "dict"), none, (.dict [e P "__module__" 1236 (s "scheme.interpret" 1209), e P "__qualname__" 1238 (s "Globals" 1237), e P "__firstlineno__" 1240 (.int (274) 1239), e P "__init__" 1248 (r 748), e P "text_of" 1256 (r 755), e P "value_of" 1264 (r 762), e P "define" 1273 (r 769), e P "assign" 1282 (r 776), e P "__static_attributes__" 1285 (r 777)].toArray 9), [].toArray⟩
noncomputable def o739 : Obj := T35 276 747 280 754 283 761 288 768 291 775
noncomputable def o740 : Obj := T0 1231 1232 1233 274 738 739 1234 1235 "Globals"
noncomputable def o741 : Obj := T1 740 737 1209 "scheme.interpret"
noncomputable def o744 : Obj := T8 1244 1245 "self" "table"
noncomputable def o746 : Obj := T9 69 0 "__init__" "Globals.__init__"
noncomputable def o747 : Obj := T4 1241 1242 1243 276 2 742 743 744 745 746 1246 1247 "__init__" "Globals.__init__"
noncomputable def o748 : Obj := T10 69 0 1209 747 "__init__" "Globals.__init__" "scheme.interpret"
noncomputable def o751 : Obj := T8 1252 1253 "self" "symbol"
noncomputable def o753 : Obj := T9 69 1 "text_of" "Globals.text_of"
noncomputable def o754 : Obj := T4 1249 1250 1251 280 2 749 750 751 752 753 1254 1255 "text_of" "Globals.text_of"
noncomputable def o755 : Obj := T10 69 1 1209 754 "text_of" "Globals.text_of" "scheme.interpret"
noncomputable def o758 : Obj := T8 1260 1261 "self" "symbol"
noncomputable def o760 : Obj := T9 69 2 "value_of" "Globals.value_of"
noncomputable def o761 : Obj := T4 1257 1258 1259 283 2 756 757 758 759 760 1262 1263 "value_of" "Globals.value_of"
noncomputable def o762 : Obj := T10 69 2 1209 761 "value_of" "Globals.value_of" "scheme.interpret"
noncomputable def o765 : Obj := T20 1268 1269 1270 "self" "symbol" "value"
noncomputable def o767 : Obj := T9 69 3 "define" "Globals.define"
noncomputable def o768 : Obj := T4 1265 1266 1267 288 3 763 764 765 766 767 1271 1272 "define" "Globals.define"
noncomputable def o769 : Obj := T10 69 3 1209 768 "define" "Globals.define" "scheme.interpret"
noncomputable def o772 : Obj := T20 1277 1278 1279 "self" "symbol" "value"
noncomputable def o774 : Obj := T9 69 4 "assign" "Globals.assign"
noncomputable def o775 : Obj := T4 1274 1275 1276 291 3 770 771 772 773 774 1280 1281 "assign" "Globals.assign"
noncomputable def o776 : Obj := T10 69 4 1209 775 "assign" "Globals.assign" "scheme.interpret"
noncomputable def o777 : Obj := T8 1283 1284 "table" "values"
noncomputable def o778 (P : Params) : Obj := ⟨(t "dict"), none, (.dict [e P "__module__" 1236 (s "scheme.interpret" 1209), e P "__firstlineno__" 1240 (.int (274) 1239), e P "__init__" 1248 (r 748), e P "text_of" 1256 (r 755), e P "value_of" 1264 (r 762), e P "define" 1273 (r 769), e P "assign" 1282 (r 776), e P "__static_attributes__" 1285 (r 777), e P "__dict__" 1287 (r 780), e P "__weakref__" 1289 (r 781), e P "__doc__" 1290 .none].toArray 4), [].toArray⟩
noncomputable def o779 : Obj := T12 779 778 1229 1237 "Globals"
noncomputable def o780 : Obj := T13 1286 779
noncomputable def o781 : Obj := T14 1288 779
noncomputable def o782 : Obj := T15 779
noncomputable def o783 : Obj := T16 779
noncomputable def o786 (P : Params) : Obj := T36 P 1300 1302 1301 1304 295 1303 1312 797 1321 804 1324 805 "Scope" "put"
noncomputable def o788 : Obj := T29 297 796 301 803
noncomputable def o789 : Obj := T0 1295 1296 1297 295 787 788 1298 1299 "Scope"
noncomputable def o790 : Obj := T1 789 786 1209 "scheme.interpret"
noncomputable def o793 : Obj := T8 1308 1309 "self" "outer"
noncomputable def o795 : Obj := T9 70 0 "__init__" "Scope.__init__"
noncomputable def o796 : Obj := T4 1305 1306 1307 297 2 791 792 793 794 795 1310 1311 "__init__" "Scope.__init__"
noncomputable def o797 : Obj := T10 70 0 1209 796 "__init__" "Scope.__init__" "scheme.interpret"
noncomputable def o800 : Obj := T20 1316 1317 1318 "self" "number" "value"
noncomputable def o802 : Obj := T9 70 1 "put" "Scope.put"
noncomputable def o803 : Obj := T4 1313 1314 1315 301 3 798 799 800 801 802 1319 1320 "put" "Scope.put"
noncomputable def o804 : Obj := T10 70 1 1209 803 "put" "Scope.put" "scheme.interpret"
noncomputable def o805 : Obj := T8 1322 1323 "outer" "values"
noncomputable def o806 (P : Params) : Obj := ⟨(t "dict"), none, (.dict [e P "__module__" 1300 (s "scheme.interpret" 1209), e P "__firstlineno__" 1304 (.int (295) 1303), e P "__init__" 1312 (r 797), e P "put" 1321 (r 804), e P "__static_attributes__" 1324 (r 805), e P "__dict__" 1326 (r 808), e P "__weakref__" 1328 (r 809), e P "__doc__" 1329 .none].toArray 4), [].toArray⟩
noncomputable def o807 : Obj := T12 807 806 1293 1301 "Scope"
noncomputable def o808 : Obj := T13 1325 807
noncomputable def o809 : Obj := T14 1327 807
noncomputable def o810 : Obj := T15 807
noncomputable def o811 : Obj := T16 807
noncomputable def o814 : Obj := T20 1335 1336 1337 "scope" "number" "here"
noncomputable def o816 : Obj := T3 71 "scope_of"
noncomputable def o817 : Obj := T4 1332 1333 1334 303 2 812 813 814 815 816 1338 1339 "scope_of" "scope_of"
noncomputable def o818 : Obj := T5 71 1209 817 "scope_of" "scheme.interpret"
noncomputable def o821 (P : Params) : Obj := T6 P 1348 1209 1350 1349 1352 310 1351 1364 832 1371 833 "scheme.interpret" "Frame"
noncomputable def o823 : Obj := T7 312 831
noncomputable def o824 : Obj := T0 1343 1344 1345 310 822 823 1346 1347 "Frame"
noncomputable def o825 : Obj := T1 824 821 1209 "scheme.interpret"
noncomputable def o828 : Obj := ⟨(t "tuple"), none, (.seq [(s "self" 1356), (s "kind" 1357), (s "node" 1358), (s "scope" 1359), (s "done" 1360), (s "outer" 1361)].toArray 0), [].toArray⟩
noncomputable def o830 : Obj := T9 72 0 "__init__" "Frame.__init__"
noncomputable def o831 : Obj := T4 1353 1354 1355 312 6 826 827 828 829 830 1362 1363 "__init__" "Frame.__init__"
noncomputable def o832 : Obj := T10 72 0 1209 831 "__init__" "Frame.__init__" "scheme.interpret"
noncomputable def o833 : Obj := ⟨(t "tuple"), none, (.seq [(s "depth" 1365), (s "done" 1366), (s "kind" 1367), (s "node" 1368), (s "outer" 1369), (s "scope" 1370)].toArray 0), [].toArray⟩
noncomputable def o834 (P : Params) : Obj := T11 P 1348 1209 1352 310 1351 1364 832 1371 833 1373 836 1375 837 1376 "scheme.interpret"
noncomputable def o835 : Obj := T12 835 834 1341 1349 "Frame"
noncomputable def o836 : Obj := T13 1372 835
noncomputable def o837 : Obj := T14 1374 835
noncomputable def o838 : Obj := T15 835
noncomputable def o839 : Obj := T16 835
noncomputable def o842 (P : Params) : Obj := T36 P 1386 1388 1387 1390 319 1389 1400 853 1409 860 1412 861 "Closure" "takes"
noncomputable def o844 : Obj := T29 321 852 326 859
noncomputable def o845 : Obj := T0 1381 1382 1383 319 843 844 1384 1385 "Closure"
noncomputable def o846 : Obj := T1 845 842 1209 "scheme.interpret"
noncomputable def o849 : Obj := T24 1394 1395 1396 1397 "self" "node" "scope" "title"
noncomputable def o851 : Obj := T9 73 0 "__init__" "Closure.__init__"
noncomputable def o852 : Obj := T4 1391 1392 1393 321 4 847 848 849 850 851 1398 1399 "__init__" "Closure.__init__"
noncomputable def o853 : Obj := T10 73 0 1209 852 "__init__" "Closure.__init__" "scheme.interpret"
noncomputable def o856 : Obj := T20 1404 1405 1406 "self" "many" "needed"
noncomputable def o858 : Obj := T9 73 1 "takes" "Closure.takes"
noncomputable def o859 : Obj := T4 1401 1402 1403 326 2 854 855 856 857 858 1407 1408 "takes" "Closure.takes"
noncomputable def o860 : Obj := T10 73 1 1209 859 "takes" "Closure.takes" "scheme.interpret"
noncomputable def o861 : Obj := T8 1410 1411 "node" "scope"
noncomputable def o862 (P : Params) : Obj := T25 P 1386 1209 1390 319 1389 1400 853 1409 860 1412 861 1413 2 "scheme.interpret" "takes" "__static_attributes__"
noncomputable def o863 : Obj := T23 173 863 862 840 1379 1387 "Closure"
noncomputable def o864 : Obj := T15 863
noncomputable def o865 : Obj := T16 863
noncomputable def o868 (P : Params) : Obj := T6 P 1423 1209 1425 1424 1427 329 1426 1435 879 1437 880 "scheme.interpret" "Continuation"
noncomputable def o870 : Obj := T7 331 878
noncomputable def o871 : Obj := T0 1418 1419 1420 329 869 870 1421 1422 "Continuation"
noncomputable def o872 : Obj := T1 871 868 1209 "scheme.interpret"
noncomputable def o875 : Obj := T8 1431 1432 "self" "frame"
noncomputable def o877 : Obj := T9 74 0 "__init__" "Continuation.__init__"
noncomputable def o878 : Obj := T4 1428 1429 1430 331 2 873 874 875 876 877 1433 1434 "__init__" "Continuation.__init__"
noncomputable def o879 : Obj := T10 74 0 1209 878 "__init__" "Continuation.__init__" "scheme.interpret"
noncomputable def o880 : Obj := T2 1436 "frame"
noncomputable def o881 (P : Params) : Obj := T22 P 1423 1209 1427 329 1426 1435 879 1437 880 1438 "scheme.interpret"
noncomputable def o882 : Obj := T23 173 882 881 866 1416 1424 "Continuation"
noncomputable def o883 : Obj := T15 882
noncomputable def o884 : Obj := T16 882
noncomputable def o887 : Obj := T28 1444 1445 1446 1447 1448 "node" "found" "waiting" "here" "part"
noncomputable def o889 : Obj := T3 75 "assigned_locals"
noncomputable def o890 : Obj := T4 1441 1442 1443 334 1 885 886 887 888 889 1449 1450 "assigned_locals" "assigned_locals"
noncomputable def o891 : Obj := T5 75 1209 890 "assigned_locals" "scheme.interpret"
noncomputable def o894 (P : Params) : Obj := ⟨(t "dict"), none, (.dict [e P "__module__" 1459 (s "scheme.interpret" 1209), e P "__qualname__" 1461 (s "BareLibrary" 1460), e P "__firstlineno__" 1463 (.int (344) 1462), e P "__init__" 1471 (r 905), e P "title_of" 1479 (r 912), e P "run" 1488 (r 919), e P "__static_attributes__" 1490 (r 920)].toArray 7), [].toArray⟩
noncomputable def o896 : Obj := T33 346 904 349 911 352 918
noncomputable def o897 : Obj := T0 1454 1455 1456 344 895 896 1457 1458 "BareLibrary"
noncomputable def o898 : Obj := T1 897 894 1209 "scheme.interpret"
noncomputable def o901 : Obj := T8 1467 1468 "self" "store"
noncomputable def o903 : Obj := T9 76 0 "__init__" "BareLibrary.__init__"
noncomputable def o904 : Obj := T4 1464 1465 1466 346 2 899 900 901 902 903 1469 1470 "__init__" "BareLibrary.__init__"
noncomputable def o905 : Obj := T10 76 0 1209 904 "__init__" "BareLibrary.__init__" "scheme.interpret"
noncomputable def o908 : Obj := T8 1475 1476 "self" "label"
noncomputable def o910 : Obj := T9 76 1 "title_of" "BareLibrary.title_of"
noncomputable def o911 : Obj := T4 1472 1473 1474 349 2 906 907 908 909 910 1477 1478 "title_of" "BareLibrary.title_of"
noncomputable def o912 : Obj := T10 76 1 1209 911 "title_of" "BareLibrary.title_of" "scheme.interpret"
noncomputable def o915 : Obj := T20 1483 1484 1485 "self" "op" "operands"
noncomputable def o917 : Obj := T9 76 2 "run" "BareLibrary.run"
noncomputable def o918 : Obj := T4 1480 1481 1482 352 3 913 914 915 916 917 1486 1487 "run" "BareLibrary.run"
noncomputable def o919 : Obj := T10 76 2 1209 918 "run" "BareLibrary.run" "scheme.interpret"
noncomputable def o920 : Obj := T2 1489 "store"
noncomputable def o921 (P : Params) : Obj := ⟨(t "dict"), none, (.dict [e P "__module__" 1459 (s "scheme.interpret" 1209), e P "__firstlineno__" 1463 (.int (344) 1462), e P "__init__" 1471 (r 905), e P "title_of" 1479 (r 912), e P "run" 1488 (r 919), e P "__static_attributes__" 1490 (r 920), e P "__dict__" 1492 (r 923), e P "__weakref__" 1494 (r 924), e P "__doc__" 1495 .none].toArray 4), [].toArray⟩
noncomputable def o922 : Obj := T12 922 921 1452 1460 "BareLibrary"
noncomputable def o923 : Obj := T13 1491 922
noncomputable def o924 : Obj := T14 1493 922
noncomputable def o925 : Obj := T15 922
noncomputable def o926 : Obj := T16 922
noncomputable def o929 (P : Params) : Obj := ⟨(t "dict"), none, (.dict [e P "__module__" 1505 (s "scheme.interpret" 1209), e P "__qualname__" 1507 (s "Interpreter" 1506), e P "__firstlineno__" 1509 (.int (354) 1508), e P "__init__" 1519 (r 940), e P "look" 1528 (r 947), e P "call_next" 1537 (r 954), e P "give" 1545 (r 961), e P "push" 1556 (r 968), e P "run" 1565 (r 975), e P "finish" 1572 (r 982), e P "step" 1579 (r 989), e P "look_at" 1589 (r 996), e P "look_further" 1600 (r 1003), e P "go_on_with" 1610 (r 1010), e P "local_value" 1620 (r 1017), e P "closure" 1629 (r 1024), e P "primitive" 1638 (r 1031), e P "one_value" 1646 (r 1038), e P "hand_on" 1656 (r 1045), e P "assign" 1666 (r 1052), e P "add_operand" 1677 (r 1059), e P "add_primitive_operand" 1688 (r 1066), e P "make_call" 1697 (r 1073), e P "enter" 1710 (r 1080), e P "control" 1721 (r 1087), e P "__static_attributes__" 1735 (r 1088)].toArray 26), [].toArray⟩
noncomputable def o931 : Obj := ⟨.none, none, (.fields [(i 356), (i 4), (r 939), (i 367), (i 4), (r 946), (i 374), (i 4), (r 953), (i 381), (i 4), (r 960), (i 388), (i 4), (r 967), (i 393), (i 4), (r 974), (i 400), (i 4), (r 981), (i 405), (i 4), (r 988), (i 416), (i 4), (r 995), (i 438), (i 4), (r 1002), (i 455), (i 4), (r 1009), (i 460), (i 4), (r 1016), (i 466), (i 4), (r 1023), (i 469), (i 4), (r 1030), (i 472), (i 4), (r 1037), (i 477), (i 4), (r 1044), (i 493), (i 4), (r 1051), (i 502), (i 4), (r 1058), (i 511), (i 4), (r 1065), (i 520), (i 4), (r 1072), (i 535), (i 4), (r 1079), (i 547), (i 4), (r 1086)].toArray), [].toArray⟩
noncomputable def o932 : Obj := T0 1500 1501 1502 354 930 931 1503 1504 "Interpreter"
noncomputable def o933 : Obj := T1 932 929 1209 "scheme.interpret"
noncomputable def o936 : Obj := T24 1513 1514 1515 1516 "self" "globals_table" "limit" "library"
noncomputable def o938 : Obj := T9 77 0 "__init__" "Interpreter.__init__"
noncomputable def o939 : Obj := T4 1510 1511 1512 356 4 934 935 936 937 938 1517 1518 "__init__" "Interpreter.__init__"
noncomputable def o940 : Obj := T10 77 0 1209 939 "__init__" "Interpreter.__init__" "scheme.interpret"
noncomputable def o943 : Obj := T20 1523 1524 1525 "self" "node" "scope"
noncomputable def o945 : Obj := T9 77 1 "look" "Interpreter.look"
noncomputable def o946 : Obj := T4 1520 1521 1522 367 3 941 942 943 944 945 1526 1527 "look" "Interpreter.look"
noncomputable def o947 : Obj := T10 77 1 1209 946 "look" "Interpreter.look" "scheme.interpret"
noncomputable def o950 : Obj := T20 1532 1533 1534 "self" "procedure" "operands"
noncomputable def o952 : Obj := T9 77 2 "call_next" "Interpreter.call_next"
noncomputable def o953 : Obj := T4 1529 1530 1531 374 3 948 949 950 951 952 1535 1536 "call_next" "Interpreter.call_next"
noncomputable def o954 : Obj := T10 77 2 1209 953 "call_next" "Interpreter.call_next" "scheme.interpret"
noncomputable def o957 : Obj := T8 1541 1542 "self" "values"
noncomputable def o959 : Obj := T9 77 3 "give" "Interpreter.give"
noncomputable def o960 : Obj := T4 1538 1539 1540 381 2 955 956 957 958 959 1543 1544 "give" "Interpreter.give"
noncomputable def o961 : Obj := T10 77 3 1209 960 "give" "Interpreter.give" "scheme.interpret"
noncomputable def o964 : Obj := T28 1549 1550 1551 1552 1553 "self" "kind" "node" "scope" "done"
noncomputable def o966 : Obj := T9 77 4 "push" "Interpreter.push"
noncomputable def o967 : Obj := T4 1546 1547 1548 388 5 962 963 964 965 966 1554 1555 "push" "Interpreter.push"
noncomputable def o968 : Obj := T10 77 4 1209 967 "push" "Interpreter.push" "scheme.interpret"
noncomputable def o971 : Obj := T20 1560 1561 1562 "self" "node" "number"
noncomputable def o973 : Obj := T9 77 5 "run" "Interpreter.run"
noncomputable def o974 : Obj := T4 1557 1558 1559 393 2 969 970 971 972 973 1563 1564 "run" "Interpreter.run"
noncomputable def o975 : Obj := T10 77 5 1209 974 "run" "Interpreter.run" "scheme.interpret"
noncomputable def o978 : Obj := T2 1569 "self"
noncomputable def o980 : Obj := T9 77 6 "finish" "Interpreter.finish"
noncomputable def o981 : Obj := T4 1566 1567 1568 400 1 976 977 978 979 980 1570 1571 "finish" "Interpreter.finish"
noncomputable def o982 : Obj := T10 77 6 1209 981 "finish" "Interpreter.finish" "scheme.interpret"
noncomputable def o985 : Obj := T2 1576 "self"
noncomputable def o987 : Obj := T9 77 7 "step" "Interpreter.step"
noncomputable def o988 : Obj := T4 1573 1574 1575 405 1 983 984 985 986 987 1577 1578 "step" "Interpreter.step"
noncomputable def o989 : Obj := T10 77 7 1209 988 "step" "Interpreter.step" "scheme.interpret"
noncomputable def o992 : Obj := T24 1583 1584 1585 1586 "self" "node" "scope" "kind"
noncomputable def o994 : Obj := T9 77 8 "look_at" "Interpreter.look_at"
noncomputable def o995 : Obj := T4 1580 1581 1582 416 3 990 991 992 993 994 1587 1588 "look_at" "Interpreter.look_at"
noncomputable def o996 : Obj := T10 77 8 1209 995 "look_at" "Interpreter.look_at" "scheme.interpret"
noncomputable def o999 : Obj := T28 1593 1594 1595 1596 1597 "self" "node" "scope" "inner" "place"
noncomputable def o1001 : Obj := T9 77 9 "look_further" "Interpreter.look_further"
noncomputable def o1002 : Obj := T4 1590 1591 1592 438 3 997 998 999 1000 1001 1598 1599 "look_further" "Interpreter.look_further"
noncomputable def o1003 : Obj := T10 77 9 1209 1002 "look_further" "Interpreter.look_further" "scheme.interpret"
noncomputable def o1006 : Obj := T24 1604 1605 1606 1607 "self" "node" "scope" "place"
noncomputable def o1008 : Obj := T9 77 10 "go_on_with" "Interpreter.go_on_with"
noncomputable def o1009 : Obj := T4 1601 1602 1603 455 4 1004 1005 1006 1007 1008 1608 1609 "go_on_with" "Interpreter.go_on_with"
noncomputable def o1010 : Obj := T10 77 10 1209 1009 "go_on_with" "Interpreter.go_on_with" "scheme.interpret"
noncomputable def o1013 : Obj := T24 1614 1615 1616 1617 "self" "number" "scope" "value"
noncomputable def o1015 : Obj := T9 77 11 "local_value" "Interpreter.local_value"
noncomputable def o1016 : Obj := T4 1611 1612 1613 460 3 1011 1012 1013 1014 1015 1618 1619 "local_value" "Interpreter.local_value"
noncomputable def o1017 : Obj := T10 77 11 1209 1016 "local_value" "Interpreter.local_value" "scheme.interpret"
noncomputable def o1020 : Obj := T20 1624 1625 1626 "self" "node" "scope"
noncomputable def o1022 : Obj := T9 77 12 "closure" "Interpreter.closure"
noncomputable def o1023 : Obj := T4 1621 1622 1623 466 3 1018 1019 1020 1021 1022 1627 1628 "closure" "Interpreter.closure"
noncomputable def o1024 : Obj := T10 77 12 1209 1023 "closure" "Interpreter.closure" "scheme.interpret"
noncomputable def o1027 : Obj := T20 1633 1634 1635 "self" "op" "operands"
noncomputable def o1029 : Obj := T9 77 13 "primitive" "Interpreter.primitive"
noncomputable def o1030 : Obj := T4 1630 1631 1632 469 3 1025 1026 1027 1028 1029 1636 1637 "primitive" "Interpreter.primitive"
noncomputable def o1031 : Obj := T10 77 13 1209 1030 "primitive" "Interpreter.primitive" "scheme.interpret"
noncomputable def o1034 : Obj := T8 1642 1643 "self" "values"
noncomputable def o1036 : Obj := T9 77 14 "one_value" "Interpreter.one_value"
noncomputable def o1037 : Obj := T4 1639 1640 1641 472 2 1032 1033 1034 1035 1036 1644 1645 "one_value" "Interpreter.one_value"
noncomputable def o1038 : Obj := T10 77 14 1209 1037 "one_value" "Interpreter.one_value" "scheme.interpret"
noncomputable def o1041 : Obj := T24 1650 1651 1652 1653 "self" "frame" "values" "node"
noncomputable def o1043 : Obj := T9 77 15 "hand_on" "Interpreter.hand_on"
noncomputable def o1044 : Obj := T4 1647 1648 1649 477 3 1039 1040 1041 1042 1043 1654 1655 "hand_on" "Interpreter.hand_on"
noncomputable def o1045 : Obj := T10 77 15 1209 1044 "hand_on" "Interpreter.hand_on" "scheme.interpret"
noncomputable def o1048 : Obj := T24 1660 1661 1662 1663 "self" "node" "scope" "value"
noncomputable def o1050 : Obj := T9 77 16 "assign" "Interpreter.assign"
noncomputable def o1051 : Obj := T4 1657 1658 1659 493 4 1046 1047 1048 1049 1050 1664 1665 "assign" "Interpreter.assign"
noncomputable def o1052 : Obj := T10 77 16 1209 1051 "assign" "Interpreter.assign" "scheme.interpret"
noncomputable def o1055 : Obj := T28 1670 1671 1672 1673 1674 "self" "frame" "value" "node" "done"
noncomputable def o1057 : Obj := T9 77 17 "add_operand" "Interpreter.add_operand"
noncomputable def o1058 : Obj := T4 1667 1668 1669 502 3 1053 1054 1055 1056 1057 1675 1676 "add_operand" "Interpreter.add_operand"
noncomputable def o1059 : Obj := T10 77 17 1209 1058 "add_operand" "Interpreter.add_operand" "scheme.interpret"
noncomputable def o1062 : Obj := T28 1681 1682 1683 1684 1685 "self" "frame" "value" "node" "done"
noncomputable def o1064 : Obj := T9 77 18 "add_primitive_operand" "Interpreter.add_primitive_operand"
noncomputable def o1065 : Obj := T4 1678 1679 1680 511 3 1060 1061 1062 1063 1064 1686 1687 "add_primitive_operand" "Interpreter.add_primitive_operand"
noncomputable def o1066 : Obj := T10 77 18 1209 1065 "add_primitive_operand" "Interpreter.add_primitive_operand" "scheme.interpret"
noncomputable def o1069 : Obj := T20 1692 1693 1694 "self" "procedure" "operands"
noncomputable def o1071 : Obj := T9 77 19 "make_call" "Interpreter.make_call"
noncomputable def o1072 : Obj := T4 1689 1690 1691 520 3 1067 1068 1069 1070 1071 1695 1696 "make_call" "Interpreter.make_call"
noncomputable def o1073 : Obj := T10 77 19 1209 1072 "make_call" "Interpreter.make_call" "scheme.interpret"
noncomputable def o1076 : Obj := ⟨(t "tuple"), none, (.seq [(s "self" 1701), (s "procedure" 1702), (s "operands" 1703), (s "node" 1704), (s "inner" 1705), (s "needed" 1706), (s "place" 1707)].toArray 0), [].toArray⟩
noncomputable def o1078 : Obj := T9 77 20 "enter" "Interpreter.enter"
noncomputable def o1079 : Obj := T4 1698 1699 1700 535 3 1074 1075 1076 1077 1078 1708 1709 "enter" "Interpreter.enter"
noncomputable def o1080 : Obj := T10 77 20 1209 1079 "enter" "Interpreter.enter" "scheme.interpret"
noncomputable def o1083 : Obj := T28 1714 1715 1716 1717 1718 "self" "word" "operands" "procedure" "spread_out"
noncomputable def o1085 : Obj := T9 77 21 "control" "Interpreter.control"
noncomputable def o1086 : Obj := T4 1711 1712 1713 547 3 1081 1082 1083 1084 1085 1719 1720 "control" "Interpreter.control"
noncomputable def o1087 : Obj := T10 77 21 1209 1086 "control" "Interpreter.control" "scheme.interpret"
noncomputable def o1088 : Obj := ⟨(t "tuple"), none, (.seq [(s "assigned" 1722), (s "calls" 1723), (s "deepest" 1724), (s "frame" 1725), (s "library" 1726), (s "limit" 1727), (s "mode" 1728), (s "node" 1729), (s "procedure" 1730), (s "scope" 1731), (s "steps" 1732), (s "tops" 1733), (s "values" 1734)].toArray 0), [].toArray⟩
noncomputable def o1089 (P : Params) : Obj := ⟨(t "dict"), none, (.dict [e P "__module__" 1505 (s "scheme.interpret" 1209), e P "__firstlineno__" 1509 (.int (354) 1508), e P "__init__" 1519 (r 940), e P "look" 1528 (r 947), e P "call_next" 1537 (r 954), e P "give" 1545 (r 961), e P "push" 1556 (r 968), e P "run" 1565 (r 975), e P "finish" 1572 (r 982), e P "step" 1579 (r 989), e P "look_at" 1589 (r 996), e P "look_further" 1600 (r 1003), e P "go_on_with" 1610 (r 1010), e P "local_value" 1620 (r 1017), e P "closure" 1629 (r 1024), e P "primitive" 1638 (r 1031), e P "one_value" 1646 (r 1038), e P "hand_on" 1656 (r 1045), e P "assign" 1666 (r 1052), e P "add_operand" 1677 (r 1059), e P "add_primitive_operand" 1688 (r 1066), e P "make_call" 1697 (r 1073), e P "enter" 1710 (r 1080), e P "control" 1721 (r 1087), e P "__static_attributes__" 1735 (r 1088), e P "__dict__" 1737 (r 1091), e P "__weakref__" 1739 (r 1092), e P "__doc__" 1740 .none].toArray 4), [].toArray⟩
noncomputable def o1090 : Obj := T12 1090 1089 1498 1506 "Interpreter"
noncomputable def o1091 : Obj := T13 1736 1090
noncomputable def o1092 : Obj := T14 1738 1090
noncomputable def o1093 : Obj := T15 1090
noncomputable def o1094 : Obj := T16 1090
noncomputable def o1097 : Obj := T3 79 "_law_deck"
noncomputable def o1098 : Obj := T37 1745 1746 1747 561 1095 1096 1097 1748 1749 "_law_deck"
noncomputable def o1099 : Obj := T5 79 1743 1098 "_law_deck" "law_nt0221_01"
noncomputable def o1102 : Obj := T20 1754 1755 1756 "_law_deck_here" "_law_many" "_law_found"
noncomputable def o1104 : Obj := T3 80 "_law_draw"
noncomputable def o1105 : Obj := T4 1751 1752 1753 566 2 1100 1101 1102 1103 1104 1757 1758 "_law_draw" "_law_draw"
noncomputable def o1106 : Obj := T5 80 1743 1105 "_law_draw" "law_nt0221_01"
noncomputable def o1109 : Obj := T8 1763 1764 "_law_deck_here" "_law_items"
noncomputable def o1111 : Obj := T3 81 "_law_one"
noncomputable def o1112 : Obj := T4 1760 1761 1762 575 2 1107 1108 1109 1110 1111 1765 1766 "_law_one" "_law_one"
noncomputable def o1113 : Obj := T5 81 1743 1112 "_law_one" "law_nt0221_01"
noncomputable def o1116 : Obj := T2 1771 "_law_count"
noncomputable def o1118 : Obj := T3 82 "_law_fresh"
noncomputable def o1119 : Obj := T4 1768 1769 1770 577 1 1114 1115 1116 1117 1118 1772 1773 "_law_fresh" "_law_fresh"
noncomputable def o1120 : Obj := T5 82 1743 1119 "_law_fresh" "law_nt0221_01"
noncomputable def o1123 : Obj := T28 1778 1779 1780 1781 1782 "_law_way" "_law_node" "_law_count" "_law_inner" "_law_taker"
noncomputable def o1125 : Obj := T3 83 "_law_last"
noncomputable def o1126 : Obj := T4 1775 1776 1777 580 3 1121 1122 1123 1124 1125 1783 1784 "_law_last" "_law_last"
noncomputable def o1127 : Obj := T5 83 1743 1126 "_law_last" "law_nt0221_01"
noncomputable def o1130 : Obj := T24 1789 1790 1791 1792 "_law_way" "_law_node" "_law_count" "_law_own"
noncomputable def o1132 : Obj := T3 84 "_law_waiting"
noncomputable def o1133 : Obj := T4 1786 1787 1788 594 3 1128 1129 1130 1131 1132 1793 1794 "_law_waiting" "_law_waiting"
noncomputable def o1134 : Obj := T5 84 1743 1133 "_law_waiting" "law_nt0221_01"
noncomputable def o1137 : Obj := ⟨(t "tuple"), none, (.seq [(s "_law_forms" 1799), (s "_law_many" 1800), (s "_law_ending" 1801), (s "_law_count" 1802), (s "_law_loop" 1803), (s "_law_items" 1804), (s "_law_head" 1805), (s "_law_rest" 1806), (s "_law_own" 1807), (s "_law_node" 1808), (s "_law_is_last" 1809), (s "_law_way" 1810), (s "_law_turn" 1811), (s "_law_at" 1812), (s "_law_taker" 1813), (s "_law_body" 1814)].toArray 0), [].toArray⟩
noncomputable def o1139 : Obj := T3 85 "_law_made"
noncomputable def o1140 : Obj := T4 1796 1797 1798 604 3 1135 1136 1137 1138 1139 1815 1816 "_law_made" "_law_made"
noncomputable def o1141 : Obj := T5 85 1743 1140 "_law_made" "law_nt0221_01"
noncomputable def o1144 : Obj := ⟨(t "tuple"), none, (.seq [(s "_law_forms" 1821), (s "_law_many" 1822), (s "_law_ending" 1823), (s "_law_found" 1824), (s "_law_turn" 1825), (s "_law_is_last" 1826), (s "_law_way" 1827)].toArray 0), [].toArray⟩
noncomputable def o1146 : Obj := T3 86 "_law_due"
noncomputable def o1147 : Obj := T4 1818 1819 1820 616 3 1142 1143 1144 1145 1146 1828 1829 "_law_due" "_law_due"
noncomputable def o1148 : Obj := T5 86 1743 1147 "_law_due" "law_nt0221_01"
noncomputable def o1151 : Obj := T3 87 "law"
noncomputable def o1152 : Obj := T37 1831 1832 1833 625 1149 1150 1151 1834 1835 "law"
noncomputable def o1153 : Obj := T5 87 1743 1152 "law" "law_nt0221_01"
noncomputable def v2_15 (P : Params) : Obj := ⟨.none, none, (.dict [e P "type.__subclasses__.Exception.0" 483 (i 228), e P "type.__subclasses__.Exception.n" 484 (i 1)].toArray 2), [].toArray⟩
noncomputable def v3_15 (P : Params) : Obj := ⟨(t "dict"), none, (.dict [e P "__name__" 165 (s "scheme.errors" 454), e P "__doc__" 166 .none, e P "__package__" 167 .none, e P "__loader__" 168 (b "__main__.__loader__#opaque"), e P "__spec__" 169 .none, e P "__annotations__" 170 (r 6), e P "__builtins__" 171 (r 4), e P "__file__" 173 (s "/claim/cut.py" 172), e P "__cached__" 174 .none, e P "_wall" 193 (r 21), e P "Special" 224 (r 38), e P "EMPTY" 230 (r 44), e P "UNSPECIFIED" 236 (r 47), e P "UNASSIGNED" 242 (r 50), e P "Symbol" 273 (r 68), e P "SymbolTable" 350 (r 131), e P "Pair" 381 (r 152), e P "Procedure" 410 (r 173), e P "Primitive" 436 (r 194), e P "list_of" 446 (r 204), e P "is_true" 453 (r 211), e P "SchemeError" 486 (r 228)].toArray 22), [].toArray⟩
noncomputable def v12_15 : Obj := ⟨.none, none, (.fields [(i 1), (i 0), (r 20), (i 5), (i 0), (r 27), (i 12), (i 0), (r 57), (i 17), (i 0), (r 78), (i 45), (i 0), (r 141), (i 50), (i 0), (r 162), (i 54), (i 0), (r 183), (i 59), (i 0), (r 203), (i 64), (i 0), (r 210), (i 67), (i 0), (r 217)].toArray), [].toArray⟩
noncomputable def v173_15 : Obj := ⟨(t "type"), none, (.cls (cd "Procedure" [(t "object")] [(r 173), (t "object")] 172 "Procedure" true [(r 194)] false false)), [none, none, (some (s "Procedure" 382)), (some (s "Procedure" 390)), (some (b "object.__new__")), (some (.bool true))].toArray⟩
noncomputable def v228_15 : Obj := T27 228 227 212 456 464 "SchemeError"
noncomputable def v2_30 (P : Params) : Obj := ⟨.none, none, (.dict [e P "type.__subclasses__.Exception.0" 483 (i 228), e P "type.__subclasses__.Exception.n" 484 (i 3), e P "type.__subclasses__.Exception.1" 691 (i 381), e P "type.__subclasses__.Exception.2" 722 (i 401)].toArray 4), [].toArray⟩
noncomputable def v3_30 (P : Params) : Obj := ⟨(t "dict"), none, (.dict [e P "__name__" 165 (s "scheme.control" 726), e P "__doc__" 166 .none, e P "__package__" 167 .none, e P "__loader__" 168 (b "__main__.__loader__#opaque"), e P "__spec__" 169 .none, e P "__annotations__" 170 (r 6), e P "__builtins__" 171 (r 4), e P "__file__" 173 (s "/claim/cut.py" 172), e P "__cached__" 174 .none, e P "_wall" 193 (r 21), e P "Special" 224 (r 38), e P "EMPTY" 230 (r 44), e P "UNSPECIFIED" 236 (r 47), e P "UNASSIGNED" 242 (r 50), e P "Symbol" 273 (r 68), e P "SymbolTable" 350 (r 131), e P "Pair" 381 (r 152), e P "Procedure" 410 (r 173), e P "Primitive" 436 (r 194), e P "list_of" 446 (r 204), e P "is_true" 453 (r 211), e P "SchemeError" 486 (r 228), e P "Unbound" 511 (r 248), e P "Unassigned" 534 (r 267), e P "NotProcedure" 559 (r 286), e P "WrongArity" 586 (r 305), e P "WrongValues" 611 (r 324), e P "WrongKind" 640 (r 343), e P "OutOfSteps" 665 (r 362), e P "MachineFault" 694 (r 381), e P "CoreError" 725 (r 401), e P "APPLY" 729 (.int (0) 728), e P "VALUES" 731 (.int (1) 730), e P "CALL_WITH_VALUES" 733 (.int (2) 732), e P "CALL_CC" 735 (.int (3) 734), e P "CONTROLS" 750 (r 409)].toArray 36), [].toArray⟩
noncomputable def v12_30 : Obj := ⟨.none, none, (.fields [(i 1), (i 0), (r 20), (i 5), (i 0), (r 27), (i 12), (i 0), (r 57), (i 17), (i 0), (r 78), (i 45), (i 0), (r 141), (i 50), (i 0), (r 162), (i 54), (i 0), (r 183), (i 59), (i 0), (r 203), (i 64), (i 0), (r 210), (i 67), (i 0), (r 217), (i 72), (i 0), (r 237), (i 77), (i 0), (r 256), (i 81), (i 0), (r 275), (i 86), (i 0), (r 294), (i 92), (i 0), (r 313), (i 97), (i 0), (r 332), (i 104), (i 0), (r 351), (i 109), (i 0), (r 370), (i 113), (i 0), (r 390)].toArray), [].toArray⟩
noncomputable def v3_51 (P : Params) : Obj := ⟨(t "dict"), none, (.dict [e P "__name__" 165 (s "scheme.core" 831), e P "__doc__" 166 .none, e P "__package__" 167 .none, e P "__loader__" 168 (b "__main__.__loader__#opaque"), e P "__spec__" 169 .none, e P "__annotations__" 170 (r 6), e P "__builtins__" 171 (r 4), e P "__file__" 173 (s "/claim/cut.py" 172), e P "__cached__" 174 .none, e P "_wall" 193 (r 21), e P "Special" 224 (r 38), e P "EMPTY" 230 (r 44), e P "UNSPECIFIED" 236 (r 47), e P "UNASSIGNED" 242 (r 50), e P "Symbol" 273 (r 68), e P "SymbolTable" 350 (r 131), e P "Pair" 381 (r 152), e P "Procedure" 410 (r 173), e P "Primitive" 436 (r 194), e P "list_of" 446 (r 204), e P "is_true" 453 (r 211), e P "SchemeError" 486 (r 228), e P "Unbound" 511 (r 248), e P "Unassigned" 534 (r 267), e P "NotProcedure" 559 (r 286), e P "WrongArity" 586 (r 305), e P "WrongValues" 611 (r 324), e P "WrongKind" 640 (r 343), e P "OutOfSteps" 665 (r 362), e P "MachineFault" 694 (r 381), e P "CoreError" 725 (r 401), e P "APPLY" 729 (.int (0) 728), e P "VALUES" 731 (.int (1) 730), e P "CALL_WITH_VALUES" 733 (.int (2) 732), e P "CALL_CC" 735 (.int (3) 734), e P "CONTROLS" 750 (r 409), e P "ControlPrimitive" 775 (r 426), e P "control_row" 782 (r 435), e P "control_name" 789 (r 442), e P "count_fits" 798 (r 449), e P "check_control" 809 (r 456), e P "list_values" 820 (r 463), e P "spread" 830 (r 470), e P "CONST" 834 (.int (0) 833), e P "LOCAL" 836 (.int (1) 835), e P "GLOBAL" 838 (.int (2) 837), e P "SET_LOCAL" 840 (.int (3) 839), e P "SET_GLOBAL" 842 (.int (4) 841), e P "DEFINE" 844 (.int (5) 843), e P "IF" 846 (.int (6) 845), e P "LAMBDA" 848 (.int (7) 847), e P "CALL" 850 (.int (8) 849), e P "SEQ" 852 (.int (9) 851), e P "PRIM" 854 (.int (10) 853), e P "FIX" 856 (.int (11) 855), e P "Node" 894 (r 494)].toArray 56), [].toArray⟩
noncomputable def v12_51 : Obj := ⟨.none, none, (.fields [(i 1), (i 0), (r 20), (i 5), (i 0), (r 27), (i 12), (i 0), (r 57), (i 17), (i 0), (r 78), (i 45), (i 0), (r 141), (i 50), (i 0), (r 162), (i 54), (i 0), (r 183), (i 59), (i 0), (r 203), (i 64), (i 0), (r 210), (i 67), (i 0), (r 217), (i 72), (i 0), (r 237), (i 77), (i 0), (r 256), (i 81), (i 0), (r 275), (i 86), (i 0), (r 294), (i 92), (i 0), (r 313), (i 97), (i 0), (r 332), (i 104), (i 0), (r 351), (i 109), (i 0), (r 370), (i 113), (i 0), (r 390), (i 124), (i 0), (r 415), (i 129), (i 0), (r 434), (i 133), (i 0), (r 441), (i 135), (i 0), (r 448), (i 137), (i 0), (r 455), (i 141), (i 0), (r 462), (i 153), (i 0), (r 469), (i 172), (i 0), (r 476)].toArray), [].toArray⟩
noncomputable def v173_51 : Obj := ⟨(t "type"), none, (.cls (cd "Procedure" [(t "object")] [(r 173), (t "object")] 172 "Procedure" true [(r 194), (r 426)] false false)), [none, none, (some (s "Procedure" 382)), (some (s "Procedure" 390)), (some (b "object.__new__")), (some (.bool true))].toArray⟩
noncomputable def v494_51 : Obj := T12 494 493 857 865 "Node"
noncomputable def v3_57 (P : Params) : Obj := ⟨(t "dict"), none, (.dict [e P "__name__" 165 (s "scheme.core" 831), e P "__doc__" 166 .none, e P "__package__" 167 .none, e P "__loader__" 168 (b "__main__.__loader__#opaque"), e P "__spec__" 169 .none, e P "__annotations__" 170 (r 6), e P "__builtins__" 171 (r 4), e P "__file__" 173 (s "/claim/cut.py" 172), e P "__cached__" 174 .none, e P "_wall" 193 (r 21), e P "Special" 224 (r 38), e P "EMPTY" 230 (r 44), e P "UNSPECIFIED" 236 (r 47), e P "UNASSIGNED" 242 (r 50), e P "Symbol" 273 (r 68), e P "SymbolTable" 350 (r 131), e P "Pair" 381 (r 152), e P "Procedure" 410 (r 173), e P "Primitive" 436 (r 194), e P "list_of" 446 (r 204), e P "is_true" 453 (r 211), e P "SchemeError" 486 (r 228), e P "Unbound" 511 (r 248), e P "Unassigned" 534 (r 267), e P "NotProcedure" 559 (r 286), e P "WrongArity" 586 (r 305), e P "WrongValues" 611 (r 324), e P "WrongKind" 640 (r 343), e P "OutOfSteps" 665 (r 362), e P "MachineFault" 694 (r 381), e P "CoreError" 725 (r 401), e P "APPLY" 729 (.int (0) 728), e P "VALUES" 731 (.int (1) 730), e P "CALL_WITH_VALUES" 733 (.int (2) 732), e P "CALL_CC" 735 (.int (3) 734), e P "CONTROLS" 750 (r 409), e P "ControlPrimitive" 775 (r 426), e P "control_row" 782 (r 435), e P "control_name" 789 (r 442), e P "count_fits" 798 (r 449), e P "check_control" 809 (r 456), e P "list_values" 820 (r 463), e P "spread" 830 (r 470), e P "CONST" 834 (.int (0) 833), e P "LOCAL" 836 (.int (1) 835), e P "GLOBAL" 838 (.int (2) 837), e P "SET_LOCAL" 840 (.int (3) 839), e P "SET_GLOBAL" 842 (.int (4) 841), e P "DEFINE" 844 (.int (5) 843), e P "IF" 846 (.int (6) 845), e P "LAMBDA" 848 (.int (7) 847), e P "CALL" 850 (.int (8) 849), e P "SEQ" 852 (.int (9) 851), e P "PRIM" 854 (.int (10) 853), e P "FIX" 856 (.int (11) 855), e P "Node" 894 (r 494), e P "Const" 920 (r 515), e P "Local" 946 (r 534), e P "Global" 972 (r 553), e P "If" 1017 (r 586), e P "Lambda" 1079 (r 633), e P "Call" 1122 (r 666)].toArray 62), [].toArray⟩
noncomputable def v12_57 : Obj := ⟨.none, none, (.fields [(i 1), (i 0), (r 20), (i 5), (i 0), (r 27), (i 12), (i 0), (r 57), (i 17), (i 0), (r 78), (i 45), (i 0), (r 141), (i 50), (i 0), (r 162), (i 54), (i 0), (r 183), (i 59), (i 0), (r 203), (i 64), (i 0), (r 210), (i 67), (i 0), (r 217), (i 72), (i 0), (r 237), (i 77), (i 0), (r 256), (i 81), (i 0), (r 275), (i 86), (i 0), (r 294), (i 92), (i 0), (r 313), (i 97), (i 0), (r 332), (i 104), (i 0), (r 351), (i 109), (i 0), (r 370), (i 113), (i 0), (r 390), (i 124), (i 0), (r 415), (i 129), (i 0), (r 434), (i 133), (i 0), (r 441), (i 135), (i 0), (r 448), (i 137), (i 0), (r 455), (i 141), (i 0), (r 462), (i 153), (i 0), (r 469), (i 172), (i 0), (r 476), (i 180), (i 0), (r 504), (i 185), (i 0), (r 523), (i 190), (i 0), (r 542), (i 195), (i 0), (r 561), (i 208), (i 0), (r 594), (i 228), (i 0), (r 641)].toArray), [].toArray⟩
noncomputable def v494_57 : Obj := ⟨(t "type"), none, (.cls (cd "Node" [(t "object")] [(r 494), (t "object")] 493 "Node" true [(r 515), (r 534), (r 553), (r 586), (r 633), (r 666)] false false)), [none, none, (some (s "Node" 857)), (some (s "Node" 865)), (some (b "object.__new__")), (some (.bool true))].toArray⟩
noncomputable def v3_70 (P : Params) : Obj := ⟨(t "dict"), none, (.dict [e P "__name__" 165 (s "scheme.interpret" 1209), e P "__doc__" 166 .none, e P "__package__" 167 .none, e P "__loader__" 168 (b "__main__.__loader__#opaque"), e P "__spec__" 169 .none, e P "__annotations__" 170 (r 6), e P "__builtins__" 171 (r 4), e P "__file__" 173 (s "/claim/cut.py" 172), e P "__cached__" 174 .none, e P "_wall" 193 (r 21), e P "Special" 224 (r 38), e P "EMPTY" 230 (r 44), e P "UNSPECIFIED" 236 (r 47), e P "UNASSIGNED" 242 (r 50), e P "Symbol" 273 (r 68), e P "SymbolTable" 350 (r 131), e P "Pair" 381 (r 152), e P "Procedure" 410 (r 173), e P "Primitive" 436 (r 194), e P "list_of" 446 (r 204), e P "is_true" 453 (r 211), e P "SchemeError" 486 (r 228), e P "Unbound" 511 (r 248), e P "Unassigned" 534 (r 267), e P "NotProcedure" 559 (r 286), e P "WrongArity" 586 (r 305), e P "WrongValues" 611 (r 324), e P "WrongKind" 640 (r 343), e P "OutOfSteps" 665 (r 362), e P "MachineFault" 694 (r 381), e P "CoreError" 725 (r 401), e P "APPLY" 729 (.int (0) 728), e P "VALUES" 731 (.int (1) 730), e P "CALL_WITH_VALUES" 733 (.int (2) 732), e P "CALL_CC" 735 (.int (3) 734), e P "CONTROLS" 750 (r 409), e P "ControlPrimitive" 775 (r 426), e P "control_row" 782 (r 435), e P "control_name" 789 (r 442), e P "count_fits" 798 (r 449), e P "check_control" 809 (r 456), e P "list_values" 820 (r 463), e P "spread" 830 (r 470), e P "CONST" 834 (.int (0) 833), e P "LOCAL" 836 (.int (1) 835), e P "GLOBAL" 838 (.int (2) 837), e P "SET_LOCAL" 840 (.int (3) 839), e P "SET_GLOBAL" 842 (.int (4) 841), e P "DEFINE" 844 (.int (5) 843), e P "IF" 846 (.int (6) 845), e P "LAMBDA" 848 (.int (7) 847), e P "CALL" 850 (.int (8) 849), e P "SEQ" 852 (.int (9) 851), e P "PRIM" 854 (.int (10) 853), e P "FIX" 856 (.int (11) 855), e P "Node" 894 (r 494), e P "Const" 920 (r 515), e P "Local" 946 (r 534), e P "Global" 972 (r 553), e P "If" 1017 (r 586), e P "Lambda" 1079 (r 633), e P "Call" 1122 (r 666), e P "Seq" 1163 (r 699), e P "Fix" 1208 (r 732), e P "LOOKING" 1212 (.int (0) 1211), e P "CALLING" 1214 (.int (1) 1213), e P "GIVING" 1216 (.int (2) 1215), e P "TEST" 1218 (.int (0) 1217), e P "ASSIGN" 1220 (.int (1) 1219), e P "OPERANDS" 1222 (.int (2) 1221), e P "SEQUENCE" 1224 (.int (3) 1223), e P "PRIMITIVE" 1226 (.int (4) 1225), e P "CONSUMER" 1228 (.int (5) 1227), e P "Globals" 1292 (r 779)].toArray 74), [].toArray⟩
noncomputable def v12_70 : Obj := ⟨.none, none, (.fields [(i 1), (i 0), (r 20), (i 5), (i 0), (r 27), (i 12), (i 0), (r 57), (i 17), (i 0), (r 78), (i 45), (i 0), (r 141), (i 50), (i 0), (r 162), (i 54), (i 0), (r 183), (i 59), (i 0), (r 203), (i 64), (i 0), (r 210), (i 67), (i 0), (r 217), (i 72), (i 0), (r 237), (i 77), (i 0), (r 256), (i 81), (i 0), (r 275), (i 86), (i 0), (r 294), (i 92), (i 0), (r 313), (i 97), (i 0), (r 332), (i 104), (i 0), (r 351), (i 109), (i 0), (r 370), (i 113), (i 0), (r 390), (i 124), (i 0), (r 415), (i 129), (i 0), (r 434), (i 133), (i 0), (r 441), (i 135), (i 0), (r 448), (i 137), (i 0), (r 455), (i 141), (i 0), (r 462), (i 153), (i 0), (r 469), (i 172), (i 0), (r 476), (i 180), (i 0), (r 504), (i 185), (i 0), (r 523), (i 190), (i 0), (r 542), (i 195), (i 0), (r 561), (i 208), (i 0), (r 594), (i 228), (i 0), (r 641), (i 240), (i 0), (r 674), (i 251), (i 0), (r 707), (i 274), (i 0), (r 740)].toArray), [].toArray⟩
noncomputable def v3_77 (P : Params) : Obj := ⟨(t "dict"), none, (.dict [e P "__name__" 165 (s "scheme.interpret" 1209), e P "__doc__" 166 .none, e P "__package__" 167 .none, e P "__loader__" 168 (b "__main__.__loader__#opaque"), e P "__spec__" 169 .none, e P "__annotations__" 170 (r 6), e P "__builtins__" 171 (r 4), e P "__file__" 173 (s "/claim/cut.py" 172), e P "__cached__" 174 .none, e P "_wall" 193 (r 21), e P "Special" 224 (r 38), e P "EMPTY" 230 (r 44), e P "UNSPECIFIED" 236 (r 47), e P "UNASSIGNED" 242 (r 50), e P "Symbol" 273 (r 68), e P "SymbolTable" 350 (r 131), e P "Pair" 381 (r 152), e P "Procedure" 410 (r 173), e P "Primitive" 436 (r 194), e P "list_of" 446 (r 204), e P "is_true" 453 (r 211), e P "SchemeError" 486 (r 228), e P "Unbound" 511 (r 248), e P "Unassigned" 534 (r 267), e P "NotProcedure" 559 (r 286), e P "WrongArity" 586 (r 305), e P "WrongValues" 611 (r 324), e P "WrongKind" 640 (r 343), e P "OutOfSteps" 665 (r 362), e P "MachineFault" 694 (r 381), e P "CoreError" 725 (r 401), e P "APPLY" 729 (.int (0) 728), e P "VALUES" 731 (.int (1) 730), e P "CALL_WITH_VALUES" 733 (.int (2) 732), e P "CALL_CC" 735 (.int (3) 734), e P "CONTROLS" 750 (r 409), e P "ControlPrimitive" 775 (r 426), e P "control_row" 782 (r 435), e P "control_name" 789 (r 442), e P "count_fits" 798 (r 449), e P "check_control" 809 (r 456), e P "list_values" 820 (r 463), e P "spread" 830 (r 470), e P "CONST" 834 (.int (0) 833), e P "LOCAL" 836 (.int (1) 835), e P "GLOBAL" 838 (.int (2) 837), e P "SET_LOCAL" 840 (.int (3) 839), e P "SET_GLOBAL" 842 (.int (4) 841), e P "DEFINE" 844 (.int (5) 843), e P "IF" 846 (.int (6) 845), e P "LAMBDA" 848 (.int (7) 847), e P "CALL" 850 (.int (8) 849), e P "SEQ" 852 (.int (9) 851), e P "PRIM" 854 (.int (10) 853), e P "FIX" 856 (.int (11) 855), e P "Node" 894 (r 494), e P "Const" 920 (r 515), e P "Local" 946 (r 534), e P "Global" 972 (r 553), e P "If" 1017 (r 586), e P "Lambda" 1079 (r 633), e P "Call" 1122 (r 666), e P "Seq" 1163 (r 699), e P "Fix" 1208 (r 732), e P "LOOKING" 1212 (.int (0) 1211), e P "CALLING" 1214 (.int (1) 1213), e P "GIVING" 1216 (.int (2) 1215), e P "TEST" 1218 (.int (0) 1217), e P "ASSIGN" 1220 (.int (1) 1219), e P "OPERANDS" 1222 (.int (2) 1221), e P "SEQUENCE" 1224 (.int (3) 1223), e P "PRIMITIVE" 1226 (.int (4) 1225), e P "CONSUMER" 1228 (.int (5) 1227), e P "Globals" 1292 (r 779), e P "Scope" 1331 (r 807), e P "scope_of" 1340 (r 818), e P "Frame" 1378 (r 835), e P "Closure" 1415 (r 863), e P "Continuation" 1440 (r 882), e P "assigned_locals" 1451 (r 891), e P "BareLibrary" 1497 (r 922)].toArray 81), [].toArray⟩
noncomputable def v12_77 : Obj := ⟨.none, none, (.fields [(i 1), (i 0), (r 20), (i 5), (i 0), (r 27), (i 12), (i 0), (r 57), (i 17), (i 0), (r 78), (i 45), (i 0), (r 141), (i 50), (i 0), (r 162), (i 54), (i 0), (r 183), (i 59), (i 0), (r 203), (i 64), (i 0), (r 210), (i 67), (i 0), (r 217), (i 72), (i 0), (r 237), (i 77), (i 0), (r 256), (i 81), (i 0), (r 275), (i 86), (i 0), (r 294), (i 92), (i 0), (r 313), (i 97), (i 0), (r 332), (i 104), (i 0), (r 351), (i 109), (i 0), (r 370), (i 113), (i 0), (r 390), (i 124), (i 0), (r 415), (i 129), (i 0), (r 434), (i 133), (i 0), (r 441), (i 135), (i 0), (r 448), (i 137), (i 0), (r 455), (i 141), (i 0), (r 462), (i 153), (i 0), (r 469), (i 172), (i 0), (r 476), (i 180), (i 0), (r 504), (i 185), (i 0), (r 523), (i 190), (i 0), (r 542), (i 195), (i 0), (r 561), (i 208), (i 0), (r 594), (i 228), (i 0), (r 641), (i 240), (i 0), (r 674), (i 251), (i 0), (r 707), (i 274), (i 0), (r 740), (i 295), (i 0), (r 789), (i 303), (i 0), (r 817), (i 310), (i 0), (r 824), (i 319), (i 0), (r 845), (i 329), (i 0), (r 871), (i 334), (i 0), (r 890), (i 344), (i 0), (r 897)].toArray), [].toArray⟩
noncomputable def v3_78 (P : Params) : Obj := ⟨(t "dict"), none, (.dict [e P "__name__" 165 (s "scheme.interpret" 1209), e P "__doc__" 166 .none, e P "__package__" 167 .none, e P "__loader__" 168 (b "__main__.__loader__#opaque"), e P "__spec__" 169 .none, e P "__annotations__" 170 (r 6), e P "__builtins__" 171 (r 4), e P "__file__" 173 (s "/claim/cut.py" 172), e P "__cached__" 174 .none, e P "_wall" 193 (r 21), e P "Special" 224 (r 38), e P "EMPTY" 230 (r 44), e P "UNSPECIFIED" 236 (r 47), e P "UNASSIGNED" 242 (r 50), e P "Symbol" 273 (r 68), e P "SymbolTable" 350 (r 131), e P "Pair" 381 (r 152), e P "Procedure" 410 (r 173), e P "Primitive" 436 (r 194), e P "list_of" 446 (r 204), e P "is_true" 453 (r 211), e P "SchemeError" 486 (r 228), e P "Unbound" 511 (r 248), e P "Unassigned" 534 (r 267), e P "NotProcedure" 559 (r 286), e P "WrongArity" 586 (r 305), e P "WrongValues" 611 (r 324), e P "WrongKind" 640 (r 343), e P "OutOfSteps" 665 (r 362), e P "MachineFault" 694 (r 381), e P "CoreError" 725 (r 401), e P "APPLY" 729 (.int (0) 728), e P "VALUES" 731 (.int (1) 730), e P "CALL_WITH_VALUES" 733 (.int (2) 732), e P "CALL_CC" 735 (.int (3) 734), e P "CONTROLS" 750 (r 409), e P "ControlPrimitive" 775 (r 426), e P "control_row" 782 (r 435), e P "control_name" 789 (r 442), e P "count_fits" 798 (r 449), e P "check_control" 809 (r 456), e P "list_values" 820 (r 463), e P "spread" 830 (r 470), e P "CONST" 834 (.int (0) 833), e P "LOCAL" 836 (.int (1) 835), e P "GLOBAL" 838 (.int (2) 837), e P "SET_LOCAL" 840 (.int (3) 839), e P "SET_GLOBAL" 842 (.int (4) 841), e P "DEFINE" 844 (.int (5) 843), e P "IF" 846 (.int (6) 845), e P "LAMBDA" 848 (.int (7) 847), e P "CALL" 850 (.int (8) 849), e P "SEQ" 852 (.int (9) 851), e P "PRIM" 854 (.int (10) 853), e P "FIX" 856 (.int (11) 855), e P "Node" 894 (r 494), e P "Const" 920 (r 515), e P "Local" 946 (r 534), e P "Global" 972 (r 553), e P "If" 1017 (r 586), e P "Lambda" 1079 (r 633), e P "Call" 1122 (r 666), e P "Seq" 1163 (r 699), e P "Fix" 1208 (r 732), e P "LOOKING" 1212 (.int (0) 1211), e P "CALLING" 1214 (.int (1) 1213), e P "GIVING" 1216 (.int (2) 1215), e P "TEST" 1218 (.int (0) 1217), e P "ASSIGN" 1220 (.int (1) 1219), e P "OPERANDS" 1222 (.int (2) 1221), e P "SEQUENCE" 1224 (.int (3) 1223), e P "PRIMITIVE" 1226 (.int (4) 1225), e P "CONSUMER" 1228 (.int (5) 1227), e P "Globals" 1292 (r 779), e P "Scope" 1331 (r 807), e P "scope_of" 1340 (r 818), e P "Frame" 1378 (r 835), e P "Closure" 1415 (r 863), e P "Continuation" 1440 (r 882), e P "assigned_locals" 1451 (r 891), e P "BareLibrary" 1497 (r 922), e P "Interpreter" 1742 (r 1090)].toArray 82), [].toArray⟩
noncomputable def v12_78 : Obj := ⟨.none, none, (.fields [(i 1), (i 0), (r 20), (i 5), (i 0), (r 27), (i 12), (i 0), (r 57), (i 17), (i 0), (r 78), (i 45), (i 0), (r 141), (i 50), (i 0), (r 162), (i 54), (i 0), (r 183), (i 59), (i 0), (r 203), (i 64), (i 0), (r 210), (i 67), (i 0), (r 217), (i 72), (i 0), (r 237), (i 77), (i 0), (r 256), (i 81), (i 0), (r 275), (i 86), (i 0), (r 294), (i 92), (i 0), (r 313), (i 97), (i 0), (r 332), (i 104), (i 0), (r 351), (i 109), (i 0), (r 370), (i 113), (i 0), (r 390), (i 124), (i 0), (r 415), (i 129), (i 0), (r 434), (i 133), (i 0), (r 441), (i 135), (i 0), (r 448), (i 137), (i 0), (r 455), (i 141), (i 0), (r 462), (i 153), (i 0), (r 469), (i 172), (i 0), (r 476), (i 180), (i 0), (r 504), (i 185), (i 0), (r 523), (i 190), (i 0), (r 542), (i 195), (i 0), (r 561), (i 208), (i 0), (r 594), (i 228), (i 0), (r 641), (i 240), (i 0), (r 674), (i 251), (i 0), (r 707), (i 274), (i 0), (r 740), (i 295), (i 0), (r 789), (i 303), (i 0), (r 817), (i 310), (i 0), (r 824), (i 319), (i 0), (r 845), (i 329), (i 0), (r 871), (i 334), (i 0), (r 890), (i 344), (i 0), (r 897), (i 354), (i 0), (r 932)].toArray), [].toArray⟩
noncomputable def v3_88 (P : Params) : Obj := ⟨(t "dict"), none, (.dict [e P "__name__" 165 (s "law_nt0221_01" 1743), e P "__doc__" 166 .none, e P "__package__" 167 .none, e P "__loader__" 168 (b "__main__.__loader__#opaque"), e P "__spec__" 169 .none, e P "__annotations__" 170 (r 6), e P "__builtins__" 171 (r 4), e P "__file__" 173 (s "/claim/cut.py" 172), e P "__cached__" 174 .none, e P "_wall" 193 (r 21), e P "Special" 224 (r 38), e P "EMPTY" 230 (r 44), e P "UNSPECIFIED" 236 (r 47), e P "UNASSIGNED" 242 (r 50), e P "Symbol" 273 (r 68), e P "SymbolTable" 350 (r 131), e P "Pair" 381 (r 152), e P "Procedure" 410 (r 173), e P "Primitive" 436 (r 194), e P "list_of" 446 (r 204), e P "is_true" 453 (r 211), e P "SchemeError" 486 (r 228), e P "Unbound" 511 (r 248), e P "Unassigned" 534 (r 267), e P "NotProcedure" 559 (r 286), e P "WrongArity" 586 (r 305), e P "WrongValues" 611 (r 324), e P "WrongKind" 640 (r 343), e P "OutOfSteps" 665 (r 362), e P "MachineFault" 694 (r 381), e P "CoreError" 725 (r 401), e P "APPLY" 729 (.int (0) 728), e P "VALUES" 731 (.int (1) 730), e P "CALL_WITH_VALUES" 733 (.int (2) 732), e P "CALL_CC" 735 (.int (3) 734), e P "CONTROLS" 750 (r 409), e P "ControlPrimitive" 775 (r 426), e P "control_row" 782 (r 435), e P "control_name" 789 (r 442), e P "count_fits" 798 (r 449), e P "check_control" 809 (r 456), e P "list_values" 820 (r 463), e P "spread" 830 (r 470), e P "CONST" 834 (.int (0) 833), e P "LOCAL" 836 (.int (1) 835), e P "GLOBAL" 838 (.int (2) 837), e P "SET_LOCAL" 840 (.int (3) 839), e P "SET_GLOBAL" 842 (.int (4) 841), e P "DEFINE" 844 (.int (5) 843), e P "IF" 846 (.int (6) 845), e P "LAMBDA" 848 (.int (7) 847), e P "CALL" 850 (.int (8) 849), e P "SEQ" 852 (.int (9) 851), e P "PRIM" 854 (.int (10) 853), e P "FIX" 856 (.int (11) 855), e P "Node" 894 (r 494), e P "Const" 920 (r 515), e P "Local" 946 (r 534), e P "Global" 972 (r 553), e P "If" 1017 (r 586), e P "Lambda" 1079 (r 633), e P "Call" 1122 (r 666), e P "Seq" 1163 (r 699), e P "Fix" 1208 (r 732), e P "LOOKING" 1212 (.int (0) 1211), e P "CALLING" 1214 (.int (1) 1213), e P "GIVING" 1216 (.int (2) 1215), e P "TEST" 1218 (.int (0) 1217), e P "ASSIGN" 1220 (.int (1) 1219), e P "OPERANDS" 1222 (.int (2) 1221), e P "SEQUENCE" 1224 (.int (3) 1223), e P "PRIMITIVE" 1226 (.int (4) 1225), e P "CONSUMER" 1228 (.int (5) 1227), e P "Globals" 1292 (r 779), e P "Scope" 1331 (r 807), e P "scope_of" 1340 (r 818), e P "Frame" 1378 (r 835), e P "Closure" 1415 (r 863), e P "Continuation" 1440 (r 882), e P "assigned_locals" 1451 (r 891), e P "BareLibrary" 1497 (r 922), e P "Interpreter" 1742 (r 1090), e P "_law_deck" 1750 (r 1099), e P "_law_draw" 1759 (r 1106), e P "_law_one" 1767 (r 1113), e P "_law_fresh" 1774 (r 1120), e P "_law_last" 1785 (r 1127), e P "_law_waiting" 1795 (r 1134), e P "_law_made" 1817 (r 1141), e P "_law_due" 1830 (r 1148), e P "law" 1836 (r 1153)].toArray 91), [].toArray⟩
noncomputable def tr0 (P : Params) : BT := (N (boot_o_0 P) (N (boot_o_1 P) (N (boot_o_3 P) (F (boot_o_7 P)) (F o11)) (N (boot_o_5 P) (F (boot_o_9 P)) (F o13))) (N (boot_o_2 P) (N (boot_o_4 P) (F (boot_o_8 P)) (F o16)) (N (boot_o_6 P) (F (boot_o_10 P)) (F o14))))
noncomputable def tr15 (P : Params) : BT := (N (boot_o_0 P) (N (boot_o_1 P) (N (v3_15 P) (N (boot_o_7 P) (N o11 (N o31 (N o63 (F o127) (F o191)) (N o16 (F (o159 P)) (F o223))) (N o47 (N o79 (F o11) (F o207)) (N o11 (F o175) E))) (N o23 (N o39 (N o71 (F o135) (F o16)) (N o103 (F o11) (F o231))) (N o11 (N o11 (F (o151 P)) (F o11)) (N o119 (F o183) E)))) (N o11 (N o19 (N o35 (N (o67 P) (F o131) (F o195)) (N o99 (F o163) (F (o227 P)))) (N (o51 P) (N o11 (F o147) (F o211)) (N o11 (F o23) E))) (N o27 (N (o43 P) (N (o75 P) (F o11) (F o203)) (N o107 (F o171) E)) (N o11 (N o91 (F o155) (F o11)) (N o16 (F o187) E))))) (N (boot_o_5 P) (N (boot_o_9 P) (N o17 (N o33 (N o65 (F o129) (F (o193 P))) (N o11 (F o161) (F o225))) (N (o49 P) (N o16 (F o145) (F o209)) (N o113 (F o177) E))) (N o11 (N o41 (N o11 (F o23) (F o11)) (N o105 (F o169) E)) (N o57 (N o89 (F o153) (F o217)) (N o121 (F o11) E)))) (N o13 (N o21 (N (o37 P) (N o69 (F o133) (F o197)) (N o11 (F o16) (F o229))) (N o23 (N o85 (F o149) (F o23)) (N o117 (F o11) E))) (N o11 (N (o45 P) (N o77 (F o141) (F o11)) (N o16 (F v173_15) E)) (N o61 (N o93 (F o11) (F o221)) (N o11 (F o189) E)))))) (N (v2_15 P) (N (boot_o_4 P) (N (boot_o_8 P) (N o16 (N o11 (N o64 (F o128) (F o192)) (N o96 (F o11) (F o224))) (N (o48 P) (N o11 (F o16) (F o11)) (N o112 (F o176) E))) (N (o24 P) (N o40 (N o72 (F o11) (F o200)) (N o11 (F o168) E)) (N o56 (N o16 (F o152) (F o216)) (N o120 (F o184) E)))) (N v12_15 (N o20 (N o36 (N o68 (F o132) (F o196)) (N o100 (F o11) (F v228_15))) (N o11 (N o84 (F o148) (F o212)) (N o16 (F (o180 P)) E))) (N o28 (N o44 (N o11 (F o140) (F o204)) (N o11 (F (o172 P)) E)) (N o16 (N o92 (F o156) (F o16)) (N o124 (F o11) E))))) (N (boot_o_6 P) (N (boot_o_10 P) (N o11 (N o34 (N o66 (F (o130 P)) (F o194)) (N o98 (F o162) (F o226))) (N o50 (N o82 (F o11) (F o210)) (N o114 (F o178) E))) (N o26 (N o42 (N o23 (F (o138 P)) (F o202)) (N o106 (F o170) E)) (N o58 (N o11 (F o154) (F o218)) (N o11 (F o16) E)))) (N o14 (N o11 (N o38 (N o70 (F o134) (F o11)) (N o16 (F o166) (F o230))) (N (o54 P) (N o86 (F o150) (F (o214 P))) (N o11 (F o182) E))) (N o16 (N (o46 P) (N o78 (F o142) (F o16)) (N o110 (F o174) E)) (N o11 (N o11 (F o23) (F o11)) (N o126 (F o190) E)))))))
noncomputable def tr30 (P : Params) : BT := (N (boot_o_0 P) (N (boot_o_1 P) (N (v3_30 P) (N (boot_o_7 P) (N o11 (N o31 (N o63 (N o127 (F o255) (F o383)) (N o191 (F o319) E)) (N o16 (N (o159 P) (F o287) E) (N o223 (F o351) E))) (N o47 (N o79 (N o11 (F o23) (F o399)) (N o207 (F o16) E)) (N o11 (N o175 (F o303) E) (N o11 (F (o367 P)) E)))) (N o23 (N o39 (N o71 (N o135 (F o263) (F o391)) (N o16 (F o232) E)) (N o103 (N o11 (F o295) E) (N o231 (F o359) E))) (N o11 (N o11 (N (o151 P) (F o279) (F o407)) (N o11 (F o343) E)) (N o119 (N o183 (F o11) E) (N (o247 P) (F o11) E))))) (N o11 (N o19 (N o35 (N (o67 P) (N o131 (F o16) (F (o387 P))) (N o195 (F (o323 P)) E)) (N o99 (N o163 (F (o291 P)) E) (N (o227 P) (F o355) E))) (N (o51 P) (N o11 (N o147 (F o275) (F o403)) (N o211 (F o339) E)) (N o11 (N o23 (F o307) E) (N o243 (F o371) E)))) (N o27 (N (o43 P) (N (o75 P) (N o11 (F o267) (F o11)) (N o203 (F o331) E)) (N o107 (N o171 (F o11) E) (N o11 (F o363) E))) (N o11 (N o91 (N o155 (F o283) E) (N o11 (F o23) E)) (N o16 (N o187 (F o11) E) (N o232 (F o379) E)))))) (N (boot_o_5 P) (N (boot_o_9 P) (N o17 (N o33 (N o65 (N o129 (F o257) (F o212)) (N (o193 P) (F o321) E)) (N o11 (N o161 (F o232) E) (N o225 (F o11) E))) (N (o49 P) (N o16 (N o145 (F o11) (F o401)) (N o209 (F o11) E)) (N o113 (N o177 (F o305) E) (N o241 (F o369) E)))) (N o11 (N o41 (N o11 (N o23 (F o11) (F o16)) (N o11 (F (o329 P)) E)) (N o105 (N o169 (F o16) E) (N o23 (F (o361 P)) E))) (N o57 (N o89 (N o153 (F o281) (F o409)) (N o217 (F o345) E)) (N o121 (N o11 (F o313) E) (N o249 (F o377) E))))) (N o13 (N o21 (N (o37 P) (N o69 (N o133 (F o11) (F o389)) (N o197 (F o325) E)) (N o11 (N o16 (F o293) E) (N o229 (F o357) E))) (N o23 (N o85 (N o149 (F o11) (F o405)) (N o23 (F o341) E)) (N o117 (N o11 (F o23) E) (N o245 (F o16) E)))) (N o11 (N (o45 P) (N o77 (N o141 (F o269) (F o397)) (N o11 (F o333) E)) (N o16 (N v173_15 (F o301) E) (N o237 (F o212) E))) (N o61 (N o93 (N o11 (F (o285 P)) E) (N o221 (F o11) E)) (N o11 (N o189 (F o317) E) (N (o253 P) (F o381) E))))))) (N (v2_30 P) (N (boot_o_4 P) (N (boot_o_8 P) (N o16 (N o11 (N o64 (N o128 (F o256) (F o384)) (N o192 (F o320) E)) (N o96 (N o11 (F o288) E) (N o224 (F o352) E))) (N (o48 P) (N o11 (N o16 (F (o272 P)) (F (o400 P))) (N o11 (F o336) E)) (N o112 (N o176 (F (o304 P)) E) (N o16 (F o11) E)))) (N (o24 P) (N o40 (N o72 (N o11 (F o264) (F o11)) (N o200 (F o23) E)) (N o11 (N o168 (F o11) E) (N o232 (F o360) E))) (N o56 (N o16 (N o152 (F o11) (F o408)) (N o216 (F o344) E)) (N o120 (N o184 (F o312) E) (N o248 (F o376) E))))) (N v12_30 (N o20 (N o36 (N o68 (N o132 (F o260) (F o11)) (N o196 (F o324) E)) (N o100 (N o11 (F o11) E) (N o228 (F o11) E))) (N o11 (N o84 (N o148 (F o276) (F o404)) (N o212 (F o340) E)) (N o16 (N (o180 P) (F o232) E) (N o244 (F o11) E)))) (N o28 (N o44 (N o11 (N o140 (F o268) (F o396)) (N o204 (F o332) E)) (N o11 (N (o172 P) (F o300) E) (N o236 (F o364) E))) (N o16 (N o92 (N o156 (F o284) E) (N o16 (F (o348 P)) E)) (N o124 (N o11 (F o16) E) (N o23 (F (o380 P)) E)))))) (N (boot_o_6 P) (N (boot_o_10 P) (N o11 (N o34 (N o66 (N (o130 P) (F o11) (F o23)) (N o194 (F o322) E)) (N o98 (N o162 (F o23) E) (N o226 (F o16) E))) (N o50 (N o82 (N o11 (F o274) (F o402)) (N o210 (F o338) E)) (N o114 (N o178 (F o306) E) (N o11 (F o370) E)))) (N o26 (N o42 (N o23 (N (o138 P) (F (o266 P)) (F o394)) (N o202 (F o11) E)) (N o106 (N o170 (F o298) E) (N (o234 P) (F o362) E))) (N o58 (N o11 (N o154 (F o282) E) (N o218 (F o232) E)) (N o11 (N o16 (F o314) E) (N o250 (F o378) E))))) (N o14 (N o11 (N o38 (N o70 (N o134 (F o262) (F o390)) (N o11 (F o326) E)) (N o16 (N o166 (F o294) E) (N o230 (F o358) E))) (N (o54 P) (N o86 (N o150 (F o16) (F o406)) (N (o214 P) (F (o342 P)) E)) (N o11 (N o182 (F (o310 P)) E) (N o246 (F o374) E)))) (N o16 (N (o46 P) (N o78 (N o142 (F o232) (F o398)) (N o16 (F o11) E)) (N o110 (N o174 (F o302) E) (N o238 (F o23) E))) (N o11 (N o11 (N o23 (F o286) E) (N o11 (F o350) E)) (N o126 (N o190 (F o11) E) (N o11 (F o382) E))))))))
noncomputable def tr51 (P : Params) : BT := (N (boot_o_0 P) (N (boot_o_1 P) (N (v3_51 P) (N (boot_o_7 P) (N o11 (N o31 (N o63 (N o127 (F o255) (F o383)) (N o191 (F o319) (F o447))) (N o16 (N (o159 P) (F o287) (F o415)) (N o223 (F o351) (F o16)))) (N o47 (N o79 (N o11 (F o23) (F o399)) (N o207 (F o16) (F o463))) (N o11 (N o175 (F o303) (F o431)) (N o11 (F (o367 P)) (F o495))))) (N o23 (N o39 (N o71 (N o135 (F o263) (F o391)) (N o16 (F o232) (F o455))) (N o103 (N o11 (F o295) (F o423)) (N o231 (F o359) (F o487)))) (N o11 (N o11 (N (o151 P) (F o279) (F o407)) (N o11 (F o343) (F o11))) (N o119 (N o183 (F o11) (F o11)) (N (o247 P) (F o11) E))))) (N o11 (N o19 (N o35 (N (o67 P) (N o131 (F o16) (F (o387 P))) (N o195 (F (o323 P)) (F o16))) (N o99 (N o163 (F (o291 P)) (F o419)) (N (o227 P) (F o355) (F o483)))) (N (o51 P) (N o11 (N o147 (F o275) (F o403)) (N o211 (F o339) (F o11))) (N o11 (N o23 (F o307) (F o435)) (N o243 (F o371) E)))) (N o27 (N (o43 P) (N (o75 P) (N o11 (F o267) (F o11)) (N o203 (F o331) (F o459))) (N o107 (N o171 (F o11) (F o427)) (N o11 (F o363) (F o491)))) (N o11 (N o91 (N o155 (F o283) (F o23)) (N o11 (F o23) (F o475))) (N o16 (N o187 (F o11) (F o11)) (N o232 (F o379) E)))))) (N (boot_o_5 P) (N (boot_o_9 P) (N o17 (N o33 (N o65 (N o129 (F o257) (F o212)) (N (o193 P) (F o321) (F o449))) (N o11 (N o161 (F o232) (F o11)) (N o225 (F o11) (F o11)))) (N (o49 P) (N o16 (N o145 (F o11) (F o401)) (N o209 (F o11) (F o16))) (N o113 (N o177 (F o305) (F o433)) (N o241 (F o369) (F o497))))) (N o11 (N o41 (N o11 (N o23 (F o11) (F o16)) (N o11 (F (o329 P)) (F o11))) (N o105 (N o169 (F o16) (F (o425 P))) (N o23 (F (o361 P)) (F o489)))) (N o57 (N o89 (N o153 (F o281) (F o409)) (N o217 (F o345) (F (o473 P)))) (N o121 (N o11 (F o313) (F o441)) (N o249 (F o377) E))))) (N o13 (N o21 (N (o37 P) (N o69 (N o133 (F o11) (F o389)) (N o197 (F o325) (F o11))) (N o11 (N o16 (F o293) (F o421)) (N o229 (F o357) (F o11)))) (N o23 (N o85 (N o149 (F o11) (F o405)) (N o23 (F o341) (F o469))) (N o117 (N o11 (F o23) (F o16)) (N o245 (F o16) E)))) (N o11 (N (o45 P) (N o77 (N o141 (F o269) (F o397)) (N o11 (F o333) (F o461))) (N o16 (N v173_51 (F o301) (F o11)) (N o237 (F o212) (F (o493 P))))) (N o61 (N o93 (N o11 (F (o285 P)) (F o11)) (N o221 (F o11) (F o477))) (N o11 (N o189 (F o317) (F o445)) (N (o253 P) (F o381) E))))))) (N (v2_30 P) (N (boot_o_4 P) (N (boot_o_8 P) (N o16 (N o11 (N o64 (N o128 (F o256) (F o384)) (N o192 (F o320) (F o448))) (N o96 (N o11 (F o288) (F o416)) (N o224 (F o352) (F o480)))) (N (o48 P) (N o11 (N o16 (F (o272 P)) (F (o400 P))) (N o11 (F o336) (F o11))) (N o112 (N o176 (F (o304 P)) (F o11)) (N o16 (F o11) (F o496))))) (N (o24 P) (N o40 (N o72 (N o11 (F o264) (F o11)) (N o200 (F o23) (F o456))) (N o11 (N o168 (F o11) (F o424)) (N o232 (F o360) (F o11)))) (N o56 (N o16 (N o152 (F o11) (F o408)) (N o216 (F o344) (F o23))) (N o120 (N o184 (F o312) (F o440)) (N o248 (F o376) E))))) (N v12_51 (N o20 (N o36 (N o68 (N o132 (F o260) (F o11)) (N o196 (F o324) (F o452))) (N o100 (N o11 (F o11) (F o11)) (N o228 (F o11) (F o484)))) (N o11 (N o84 (N o148 (F o276) (F o404)) (N o212 (F o340) (F o468))) (N o16 (N (o180 P) (F o232) (F o11)) (N o244 (F o11) E)))) (N o28 (N o44 (N o11 (N o140 (F o268) (F o396)) (N o204 (F o332) (F o11))) (N o11 (N (o172 P) (F o300) (F o428)) (N o236 (F o364) (F o11)))) (N o16 (N o92 (N o156 (F o284) (F (o412 P))) (N o16 (F (o348 P)) (F o476))) (N o124 (N o11 (F o16) (F o16)) (N o23 (F (o380 P)) E)))))) (N (boot_o_6 P) (N (boot_o_10 P) (N o11 (N o34 (N o66 (N (o130 P) (F o11) (F o23)) (N o194 (F o322) (F o11))) (N o98 (N o162 (F o23) (F o16)) (N o226 (F o16) (F o482)))) (N o50 (N o82 (N o11 (F o274) (F o402)) (N o210 (F o338) (F o466))) (N o114 (N o178 (F o306) (F o434)) (N o11 (F o370) (F o498))))) (N o26 (N o42 (N o23 (N (o138 P) (F (o266 P)) (F o394)) (N o202 (F o11) (F o16))) (N o106 (N o170 (F o298) (F o426)) (N (o234 P) (F o362) (F o490)))) (N o58 (N o11 (N o154 (F o282) (F o178)) (N o218 (F o232) (F o11))) (N o11 (N o16 (F o314) (F o442)) (N o250 (F o378) E))))) (N o14 (N o11 (N o38 (N o70 (N o134 (F o262) (F o390)) (N o11 (F o326) (F o454))) (N o16 (N o166 (F o294) (F o422)) (N o230 (F o358) (F o16)))) (N (o54 P) (N o86 (N o150 (F o16) (F o406)) (N (o214 P) (F (o342 P)) (F o470))) (N o11 (N o182 (F (o310 P)) (F o438)) (N o246 (F o374) E)))) (N o16 (N (o46 P) (N o78 (N o142 (F o232) (F o398)) (N o16 (F o11) (F o462))) (N o110 (N o174 (F o302) (F o16)) (N o238 (F o23) (F v494_51)))) (N o11 (N o11 (N o23 (F o286) (F o414)) (N o11 (F o350) (F o11))) (N o126 (N o190 (F o11) (F o11)) (N o11 (F o382) E))))))))
noncomputable def tr57 (P : Params) : BT := (N (boot_o_0 P) (N (boot_o_1 P) (N (v3_57 P) (N (boot_o_7 P) (N o11 (N o31 (N o63 (N o127 (N o255 (F o511) E) (N o383 (F o11) E)) (N o191 (N o319 (F o575) E) (F o447))) (N o16 (N (o159 P) (N o287 (F o543) E) (F o415)) (N o223 (N o351 (F o607) E) (F o16)))) (N o47 (N o79 (N o11 (N o23 (F o527) E) (N o399 (F o655) E)) (N o207 (N o16 (F (o591 P)) E) (F o463))) (N o11 (N o175 (N o303 (F o11) E) (F o431)) (N o11 (N (o367 P) (F o623) E) (F o495))))) (N o23 (N o39 (N o71 (N o135 (N o263 (F o23) E) (N o391 (F o647) E)) (N o16 (N o232 (F o583) E) (F o455))) (N o103 (N o11 (N o295 (F o551) E) (F o423)) (N o231 (N o359 (F o615) E) (F o487)))) (N o11 (N o11 (N (o151 P) (N o279 (F o535) E) (N o407 (F o663) E)) (N o11 (N o343 (F o11) E) (F o11))) (N o119 (N o183 (N o11 (F o567) E) (F o11)) (N (o247 P) (N o11 (F o631) E) (F o503)))))) (N o11 (N o19 (N o35 (N (o67 P) (N o131 (N o16 (F o515) E) (N (o387 P) (F o11) E)) (N o195 (N (o323 P) (F o579) E) (F o16))) (N o99 (N o163 (N (o291 P) (F o11) E) (F o419)) (N (o227 P) (N o355 (F o16) E) (F o483)))) (N (o51 P) (N o11 (N o147 (N o275 (F o531) E) (N o403 (F o659) E)) (N o211 (N o339 (F o595) E) (F o11))) (N o11 (N o23 (N o307 (F o11) E) (F o435)) (N o243 (N o371 (F o11) E) (F o499))))) (N o27 (N (o43 P) (N (o75 P) (N o11 (N o267 (F o523) E) (N o11 (F o16) E)) (N o203 (N o331 (F o587) E) (F o459))) (N o107 (N o171 (N o11 (F o555) E) (F o427)) (N o11 (N o363 (F o619) E) (F o491)))) (N o11 (N o91 (N o155 (N o283 (F (o539 P)) E) (N o23 (F o667) E)) (N o11 (N o23 (F o11) E) (F o475))) (N o16 (N o187 (N o11 (F o16) E) (F o11)) (N o232 (N o379 (F o635) E) (F o16))))))) (N (boot_o_5 P) (N (boot_o_9 P) (N o17 (N o33 (N o65 (N o129 (N o257 (F o513) E) (N o212 (F o641) E)) (N (o193 P) (N o321 (F o11) E) (F o449))) (N o11 (N o161 (N o232 (F o16) E) (F o11)) (N o225 (N o11 (F o609) E) (F o11)))) (N (o49 P) (N o16 (N o145 (N o11 (F o529) E) (N o401 (F o11) E)) (N o209 (N o11 (F o593) E) (F o16))) (N o113 (N o177 (N o305 (F o561) E) (F o433)) (N o241 (N o369 (F o16) E) (F o497))))) (N o11 (N o41 (N o11 (N o23 (N o11 (F o11) E) (N o16 (F o649) E)) (N o11 (N (o329 P) (F (o585 P)) E) (F o11))) (N o105 (N o169 (N o16 (F o553) E) (F (o425 P))) (N o23 (N (o361 P) (F o11) E) (F o489)))) (N o57 (N o89 (N o153 (N o281 (F o499) E) (N o409 (F (o665 P)) E)) (N o217 (N o345 (F o601) E) (F (o473 P)))) (N o121 (N o11 (N o313 (F o569) E) (F o441)) (N o249 (N o377 (F o633) E) (F o505)))))) (N o13 (N o21 (N (o37 P) (N o69 (N o133 (N o11 (F o517) E) (N o389 (F o645) E)) (N o197 (N o325 (F o581) E) (F o11))) (N o11 (N o16 (N o293 (F o549) E) (F o421)) (N o229 (N o357 (F o11) E) (F o11)))) (N o23 (N o85 (N o149 (N o11 (F (o533 P)) E) (N o405 (F o661) E)) (N o23 (N o341 (F o16) E) (F o469))) (N o117 (N o11 (N o23 (F o565) E) (F o16)) (N o245 (N o16 (F o629) E) (F (o501 P)))))) (N o11 (N (o45 P) (N o77 (N o141 (N o269 (F o11) E) (N o397 (F o11) E)) (N o11 (N o333 (F o499) E) (F o461))) (N o16 (N v173_51 (N o301 (F o23) E) (F o11)) (N o237 (N o212 (F o621) E) (F (o493 P))))) (N o61 (N o93 (N o11 (N (o285 P) (F o541) E) (F o11)) (N o221 (N o11 (F o605) E) (F o477))) (N o11 (N o189 (N o317 (F o11) E) (F o445)) (N (o253 P) (N o381 (F o23) E) (F o11)))))))) (N (v2_30 P) (N (boot_o_4 P) (N (boot_o_8 P) (N o16 (N o11 (N o64 (N o128 (N o256 (F o512) E) (N o384 (F o640) E)) (N o192 (N o320 (F o576) E) (F o448))) (N o96 (N o11 (N o288 (F o11) E) (F o416)) (N o224 (N o352 (F o608) E) (F o480)))) (N (o48 P) (N o11 (N o16 (N (o272 P) (F o11) E) (N (o400 P) (F o656) E)) (N o11 (N o336 (F o11) E) (F o11))) (N o112 (N o176 (N (o304 P) (F o560) E) (F o11)) (N o16 (N o11 (F o11) E) (F o496))))) (N (o24 P) (N o40 (N o72 (N o11 (N o264 (F (o520 P)) E) (N o11 (F o648) E)) (N o200 (N o23 (F o584) E) (F o456))) (N o11 (N o168 (N o11 (F (o552 P)) E) (F o424)) (N o232 (N o360 (F o616) E) (F o11)))) (N o56 (N o16 (N o152 (N o11 (F o536) E) (N o408 (F o664) E)) (N o216 (N o344 (F o600) E) (F o23))) (N o120 (N o184 (N o312 (F o568) E) (F o440)) (N o248 (N o376 (F (o632 P)) E) (F o504)))))) (N v12_57 (N o20 (N o36 (N o68 (N o132 (N o260 (F o516) E) (N o11 (F o16) E)) (N o196 (N o324 (F o11) E) (F o452))) (N o100 (N o11 (N o11 (F o548) E) (F o11)) (N o228 (N o11 (F o612) E) (F o484)))) (N o11 (N o84 (N o148 (N o276 (F o532) E) (N o404 (F o11) E)) (N o212 (N o340 (F o11) E) (F o468))) (N o16 (N (o180 P) (N o232 (F o16) E) (F o11)) (N o244 (N o11 (F o628) E) (F o23))))) (N o28 (N o44 (N o11 (N o140 (N o268 (F o524) E) (N o396 (F o652) E)) (N o204 (N o332 (F o588) E) (F o11))) (N o11 (N (o172 P) (N o300 (F o499) E) (F o428)) (N o236 (N o364 (F o11) E) (F o11)))) (N o16 (N o92 (N o156 (N o284 (F o11) E) (N (o412 P) (F o668) E)) (N o16 (N (o348 P) (F o16) E) (F o476))) (N o124 (N o11 (N o16 (F o572) E) (F o16)) (N o23 (N (o380 P) (F o499) E) (F o508))))))) (N (boot_o_6 P) (N (boot_o_10 P) (N o11 (N o34 (N o66 (N (o130 P) (N o11 (F (o514 P)) E) (N o23 (F o642) E)) (N o194 (N o322 (F o16) E) (F o11))) (N o98 (N o162 (N o23 (F o546) E) (F o16)) (N o226 (N o16 (F o11) E) (F o482)))) (N o50 (N o82 (N o11 (N o274 (F o530) E) (N o402 (F o16) E)) (N o210 (N o338 (F o594) E) (F o466))) (N o114 (N o178 (N o306 (F o562) E) (F o434)) (N o11 (N o370 (F o626) E) (F o498))))) (N o26 (N o42 (N o23 (N (o138 P) (N (o266 P) (F o522) E) (N o394 (F o11) E)) (N o202 (N o11 (F o586) E) (F o16))) (N o106 (N o170 (N o298 (F o554) E) (F o426)) (N (o234 P) (N o362 (F o16) E) (F o490)))) (N o58 (N o11 (N o154 (N o282 (F o23) E) (N o178 (F o666) E)) (N o218 (N o232 (F o602) E) (F o11))) (N o11 (N o16 (N o314 (F o11) E) (F o442)) (N o250 (N o378 (F o634) E) (F o11)))))) (N o14 (N o11 (N o38 (N o70 (N o134 (N o262 (F o499) E) (N o390 (F o11) E)) (N o11 (N o326 (F o582) E) (F o454))) (N o16 (N o166 (N o294 (F o550) E) (F o422)) (N o230 (N o358 (F o614) E) (F o16)))) (N (o54 P) (N o86 (N o150 (N o16 (F o534) E) (N o406 (F o662) E)) (N (o214 P) (N (o342 P) (F o598) E) (F o470))) (N o11 (N o182 (N (o310 P) (F o11) E) (F o438)) (N o246 (N o374 (F o630) E) (F o11))))) (N o16 (N (o46 P) (N o78 (N o142 (N o232 (F o16) E) (N o398 (F o654) E)) (N o16 (N o11 (F o23) E) (F o462))) (N o110 (N o174 (N o302 (F (o558 P)) E) (F o16)) (N o238 (N o23 (F o622) E) (F v494_57)))) (N o11 (N o11 (N o23 (N o286 (F o542) E) (F o414)) (N o11 (N o350 (F o11) E) (F o11))) (N o126 (N o190 (N o11 (F o574) E) (F o11)) (N o11 (N o382 (F (o638 P)) E) (F o510)))))))))
noncomputable def tr70 (P : Params) : BT := (N (boot_o_0 P) (N (boot_o_1 P) (N (v3_70 P) (N (boot_o_7 P) (N o11 (N o31 (N o63 (N o127 (N o255 (F o511) (F o767)) (N o383 (F o11) E)) (N o191 (N o319 (F o575) E) (N o447 (F o23) E))) (N o16 (N (o159 P) (N o287 (F o543) E) (N o415 (F (o671 P)) E)) (N o223 (N o351 (F o607) E) (N o16 (F o11) E)))) (N o47 (N o79 (N o11 (N o23 (F o527) (F o783)) (N o399 (F o655) E)) (N o207 (N o16 (F (o591 P)) E) (N o463 (F o11) E))) (N o11 (N o175 (N o303 (F o11) E) (N o431 (F o687) E)) (N o11 (N (o367 P) (F o623) E) (N o495 (F o751) E))))) (N o23 (N o39 (N o71 (N o135 (N o263 (F o23) (F o775)) (N o391 (F o647) E)) (N o16 (N o232 (F o583) E) (N o455 (F o711) E))) (N o103 (N o11 (N o295 (F o551) E) (N o423 (F o11) E)) (N o231 (N o359 (F o615) E) (N o487 (F o16) E)))) (N o11 (N o11 (N (o151 P) (N o279 (F o535) E) (N o407 (F o663) E)) (N o11 (N o343 (F o11) E) (N o11 (F o727) E))) (N o119 (N o183 (N o11 (F o567) E) (N o11 (F o695) E)) (N (o247 P) (N o11 (F o631) E) (N o503 (F o11) E)))))) (N o11 (N o19 (N o35 (N (o67 P) (N o131 (N o16 (F o515) (F o16)) (N (o387 P) (F o11) E)) (N o195 (N (o323 P) (F o579) E) (N o16 (F o707) E))) (N o99 (N o163 (N (o291 P) (F o11) E) (N o419 (F o675) E)) (N (o227 P) (N o355 (F o16) E) (N o483 (F o739) E)))) (N (o51 P) (N o11 (N o147 (N o275 (F o531) E) (N o403 (F o659) E)) (N o211 (N o339 (F o595) E) (N o11 (F o11) E))) (N o11 (N o23 (N o307 (F o11) E) (N o435 (F o16) E)) (N o243 (N o371 (F o11) E) (N o499 (F o755) E))))) (N o27 (N (o43 P) (N (o75 P) (N o11 (N o267 (F o523) (F o779)) (N o11 (F o16) E)) (N o203 (N o331 (F o587) E) (N o459 (F o715) E))) (N o107 (N o171 (N o11 (F o555) E) (N o427 (F o11) E)) (N o11 (N o363 (F o619) E) (N o491 (F o747) E)))) (N o11 (N o91 (N o155 (N o283 (F (o539 P)) E) (N o23 (F o667) E)) (N o11 (N o23 (F o11) E) (N o475 (F (o731 P)) E))) (N o16 (N o187 (N o11 (F o16) E) (N o11 (F o699) E)) (N o232 (N o379 (F o635) E) (N o16 (F o11) E))))))) (N (boot_o_5 P) (N (boot_o_9 P) (N o17 (N o33 (N o65 (N o129 (N o257 (F o513) (F o769)) (N o212 (F o641) E)) (N (o193 P) (N o321 (F o11) E) (N o449 (F o11) E))) (N o11 (N o161 (N o232 (F o16) E) (N o11 (F o673) E)) (N o225 (N o11 (F o609) E) (N o11 (F (o737 P)) E)))) (N (o49 P) (N o16 (N o145 (N o11 (F o529) E) (N o401 (F o11) E)) (N o209 (N o11 (F o593) E) (N o16 (F o721) E))) (N o113 (N o177 (N o305 (F o561) E) (N o433 (F o689) E)) (N o241 (N o369 (F o16) E) (N o497 (F o753) E))))) (N o11 (N o41 (N o11 (N o23 (N o11 (F o11) (F o777)) (N o16 (F o649) E)) (N o11 (N (o329 P) (F (o585 P)) E) (N o11 (F o713) E))) (N o105 (N o169 (N o16 (F o553) E) (N (o425 P) (F o681) E)) (N o23 (N (o361 P) (F o11) E) (N o489 (F o11) E)))) (N o57 (N o89 (N o153 (N o281 (F o499) E) (N o409 (F (o665 P)) E)) (N o217 (N o345 (F o601) E) (N (o473 P) (F o729) E))) (N o121 (N o11 (N o313 (F o569) E) (N o441 (F o697) E)) (N o249 (N o377 (F o633) E) (N o505 (F o761) E)))))) (N o13 (N o21 (N (o37 P) (N o69 (N o133 (N o11 (F o517) (F o11)) (N o389 (F o645) E)) (N o197 (N o325 (F o581) E) (N o11 (F o11) E))) (N o11 (N o16 (N o293 (F o549) E) (N o421 (F o16) E)) (N o229 (N o357 (F o11) E) (N o11 (F o741) E)))) (N o23 (N o85 (N o149 (N o11 (F (o533 P)) E) (N o405 (F o661) E)) (N o23 (N o341 (F o16) E) (N o469 (F o725) E))) (N o117 (N o11 (N o23 (F o565) E) (N o16 (F o11) E)) (N o245 (N o16 (F o629) E) (N (o501 P) (F o16) E))))) (N o11 (N (o45 P) (N o77 (N o141 (N o269 (F o11) (F o781)) (N o397 (F o11) E)) (N o11 (N o333 (F o499) E) (N o461 (F o16) E))) (N o16 (N v173_51 (N o301 (F o23) E) (N o11 (F o685) E)) (N o237 (N o212 (F o621) E) (N (o493 P) (F o11) E)))) (N o61 (N o93 (N o11 (N (o285 P) (F o541) E) (N o11 (F o499) E)) (N o221 (N o11 (F o605) E) (N o477 (F o733) E))) (N o11 (N o189 (N o317 (F o11) E) (N o445 (F o701) E)) (N (o253 P) (N o381 (F o23) E) (N o11 (F o765) E)))))))) (N (v2_30 P) (N (boot_o_4 P) (N (boot_o_8 P) (N o16 (N o11 (N o64 (N o128 (N o256 (F o512) (F o768)) (N o384 (F o640) E)) (N o192 (N o320 (F o576) E) (N o448 (F (o704 P)) E))) (N o96 (N o11 (N o288 (F o11) E) (N o416 (F o11) E)) (N o224 (N o352 (F o608) E) (N o480 (F o23) E)))) (N (o48 P) (N o11 (N o16 (N (o272 P) (F o11) E) (N (o400 P) (F o656) E)) (N o11 (N o336 (F o11) E) (N o11 (F o720) E))) (N o112 (N o176 (N (o304 P) (F o560) E) (N o11 (F o688) E)) (N o16 (N o11 (F o11) E) (N o496 (F o11) E))))) (N (o24 P) (N o40 (N o72 (N o11 (N o264 (F (o520 P)) (F o776)) (N o11 (F o648) E)) (N o200 (N o23 (F o584) E) (N o456 (F o11) E))) (N o11 (N o168 (N o11 (F (o552 P)) E) (N o424 (F o680) E)) (N o232 (N o360 (F o616) E) (N o11 (F o744) E)))) (N o56 (N o16 (N o152 (N o11 (F o536) E) (N o408 (F o664) E)) (N o216 (N o344 (F o600) E) (N o23 (F o728) E))) (N o120 (N o184 (N o312 (F o568) E) (N o440 (F o696) E)) (N o248 (N o376 (F (o632 P)) E) (N o504 (F o760) E)))))) (N v12_70 (N o20 (N o36 (N o68 (N o132 (N o260 (F o516) (F o772)) (N o11 (F o16) E)) (N o196 (N o324 (F o11) E) (N o452 (F o708) E))) (N o100 (N o11 (N o11 (F o548) E) (N o11 (F o11) E)) (N o228 (N o11 (F o612) E) (N o484 (F o740) E)))) (N o11 (N o84 (N o148 (N o276 (F o532) E) (N o404 (F o11) E)) (N o212 (N o340 (F o11) E) (N o468 (F o16) E))) (N o16 (N (o180 P) (N o232 (F o16) E) (N o11 (F o692) E)) (N o244 (N o11 (F o628) E) (N o23 (F o11) E))))) (N o28 (N o44 (N o11 (N o140 (N o268 (F o524) (F o780)) (N o396 (F o652) E)) (N o204 (N o332 (F o588) E) (N o11 (F o11) E))) (N o11 (N (o172 P) (N o300 (F o499) E) (N o428 (F o16) E)) (N o236 (N o364 (F o11) E) (N o11 (F o748) E)))) (N o16 (N o92 (N o156 (N o284 (F o11) E) (N (o412 P) (F o668) E)) (N o16 (N (o348 P) (F o16) E) (N o476 (F o732) E))) (N o124 (N o11 (N o16 (F o572) E) (N o16 (F o700) E)) (N o23 (N (o380 P) (F o499) E) (N o508 (F o16) E))))))) (N (boot_o_6 P) (N (boot_o_10 P) (N o11 (N o34 (N o66 (N (o130 P) (N o11 (F (o514 P)) (F o11)) (N o23 (F o642) E)) (N o194 (N o322 (F o16) E) (N o11 (F o706) E))) (N o98 (N o162 (N o23 (F o546) E) (N o16 (F o674) E)) (N o226 (N o16 (F o11) E) (N o482 (F o11) E)))) (N o50 (N o82 (N o11 (N o274 (F o530) E) (N o402 (F o16) E)) (N o210 (N o338 (F o594) E) (N o466 (F o722) E))) (N o114 (N o178 (N o306 (F o562) E) (N o434 (F o11) E)) (N o11 (N o370 (F o626) E) (N o498 (F o754) E))))) (N o26 (N o42 (N o23 (N (o138 P) (N (o266 P) (F o522) (F (o778 P))) (N o394 (F o11) E)) (N o202 (N o11 (F o586) E) (N o16 (F o714) E))) (N o106 (N o170 (N o298 (F o554) E) (N o426 (F o682) E)) (N (o234 P) (N o362 (F o16) E) (N o490 (F o746) E)))) (N o58 (N o11 (N o154 (N o282 (F o23) E) (N o178 (F o666) E)) (N o218 (N o232 (F o602) E) (N o11 (F o730) E))) (N o11 (N o16 (N o314 (F o11) E) (N o442 (F (o698 P)) E)) (N o250 (N o378 (F o634) E) (N o11 (F o762) E)))))) (N o14 (N o11 (N o38 (N o70 (N o134 (N o262 (F o499) (F o774)) (N o390 (F o11) E)) (N o11 (N o326 (F o582) E) (N o454 (F o16) E))) (N o16 (N o166 (N o294 (F o550) E) (N o422 (F o678) E)) (N o230 (N o358 (F o614) E) (N o16 (F o11) E)))) (N (o54 P) (N o86 (N o150 (N o16 (F o534) E) (N o406 (F o662) E)) (N (o214 P) (N (o342 P) (F o598) E) (N o470 (F o11) E))) (N o11 (N o182 (N (o310 P) (F o11) E) (N o438 (F o694) E)) (N o246 (N o374 (F o630) E) (N o11 (F o758) E))))) (N o16 (N (o46 P) (N o78 (N o142 (N o232 (F o16) (F o782)) (N o398 (F o654) E)) (N o16 (N o11 (F o23) E) (N o462 (F o718) E))) (N o110 (N o174 (N o302 (F (o558 P)) E) (N o16 (F o11) E)) (N o238 (N o23 (F o622) E) (N o494 (F o16) E)))) (N o11 (N o11 (N o23 (N o286 (F o542) E) (N o414 (F o23) E)) (N o11 (N o350 (F o11) E) (N o11 (F o734) E))) (N o126 (N o190 (N o11 (F o574) E) (N o11 (F o499) E)) (N o11 (N o382 (F (o638 P)) E) (N o510 (F o11) E)))))))))
noncomputable def tr77 (P : Params) : BT := (N (boot_o_0 P) (N (boot_o_1 P) (N (v3_77 P) (N (boot_o_7 P) (N o11 (N o31 (N o63 (N o127 (N o255 (F o511) (F o767)) (N o383 (F o11) (F o11))) (N o191 (N o319 (F o575) (F o831)) (N o447 (F o23) E))) (N o16 (N (o159 P) (N o287 (F o543) (F o16)) (N o415 (F (o671 P)) E)) (N o223 (N o351 (F o607) (F o863)) (N o16 (F o11) E)))) (N o47 (N o79 (N o11 (N o23 (F o527) (F o783)) (N o399 (F o655) (F o911))) (N o207 (N o16 (F (o591 P)) (F o11)) (N o463 (F o11) E))) (N o11 (N o175 (N o303 (F o11) (F o11)) (N o431 (F o687) E)) (N o11 (N (o367 P) (F o623) (F o879)) (N o495 (F o751) E))))) (N o23 (N o39 (N o71 (N o135 (N o263 (F o23) (F o775)) (N o391 (F o647) (F o903))) (N o16 (N o232 (F o583) (F o839)) (N o455 (F o711) E))) (N o103 (N o11 (N o295 (F o551) (F o807)) (N o423 (F o11) E)) (N o231 (N o359 (F o615) (F o871)) (N o487 (F o16) E)))) (N o11 (N o11 (N (o151 P) (N o279 (F o535) (F o11)) (N o407 (F o663) (F o919))) (N o11 (N o343 (F o11) (F o16)) (N o11 (F o727) E))) (N o119 (N o183 (N o11 (F o567) (F o823)) (N o11 (F o695) E)) (N (o247 P) (N o11 (F o631) (F o887)) (N o503 (F o11) E)))))) (N o11 (N o19 (N o35 (N (o67 P) (N o131 (N o16 (F o515) (F o16)) (N (o387 P) (F o11) (F o11))) (N o195 (N (o323 P) (F o579) (F o835)) (N o16 (F o707) E))) (N o99 (N o163 (N (o291 P) (F o11) (F o803)) (N o419 (F o675) E)) (N (o227 P) (N o355 (F o16) (F o23)) (N o483 (F o739) E)))) (N (o51 P) (N o11 (N o147 (N o275 (F o531) (F o11)) (N o403 (F o659) (F o915))) (N o211 (N o339 (F o595) (F o851)) (N o11 (F o11) E))) (N o11 (N o23 (N o307 (F o11) (F o11)) (N o435 (F o16) E)) (N o243 (N o371 (F o11) (F o883)) (N o499 (F o755) E))))) (N o27 (N (o43 P) (N (o75 P) (N o11 (N o267 (F o523) (F o779)) (N o11 (F o16) (F o16))) (N o203 (N o331 (F o587) (F o11)) (N o459 (F o715) E))) (N o107 (N o171 (N o11 (F o555) (F o811)) (N o427 (F o11) E)) (N o11 (N o363 (F o619) (F o875)) (N o491 (F o747) E)))) (N o11 (N o91 (N o155 (N o283 (F (o539 P)) (F o795)) (N o23 (F o667) (F o923))) (N o11 (N o23 (F o11) (F o859)) (N o475 (F (o731 P)) E))) (N o16 (N o187 (N o11 (F o16) (F o16)) (N o11 (F o699) E)) (N o232 (N o379 (F o635) (F o891)) (N o16 (F o11) E))))))) (N (boot_o_5 P) (N (boot_o_9 P) (N o17 (N o33 (N o65 (N o129 (N o257 (F o513) (F o769)) (N o212 (F o641) (F o897))) (N (o193 P) (N o321 (F o11) (F o833)) (N o449 (F o11) E))) (N o11 (N o161 (N o232 (F o16) (F o11)) (N o11 (F o673) E)) (N o225 (N o11 (F o609) (F o865)) (N o11 (F (o737 P)) E)))) (N (o49 P) (N o16 (N o145 (N o11 (F o529) (F o23)) (N o401 (F o11) (F o11))) (N o209 (N o11 (F o593) (F o849)) (N o16 (F o721) E))) (N o113 (N o177 (N o305 (F o561) (F o817)) (N o433 (F o689) E)) (N o241 (N o369 (F o16) (F (o881 P))) (N o497 (F o753) E))))) (N o11 (N o41 (N o11 (N o23 (N o11 (F o11) (F o777)) (N o16 (F o649) (F o905))) (N o11 (N (o329 P) (F (o585 P)) (F o23)) (N o11 (F o713) E))) (N o105 (N o169 (N o16 (F o553) (F o809)) (N (o425 P) (F o681) E)) (N o23 (N (o361 P) (F o11) (F o11)) (N o489 (F o11) E)))) (N o57 (N o89 (N o153 (N o281 (F o499) (F o793)) (N o409 (F (o665 P)) (F (o921 P)))) (N o217 (N o345 (F o601) (F o11)) (N (o473 P) (F o729) E))) (N o121 (N o11 (N o313 (F o569) (F o825)) (N o441 (F o697) E)) (N o249 (N o377 (F o633) (F o889)) (N o505 (F o761) E)))))) (N o13 (N o21 (N (o37 P) (N o69 (N o133 (N o11 (F o517) (F o11)) (N o389 (F o645) (F o901))) (N o197 (N o325 (F o581) (F o837)) (N o11 (F o11) E))) (N o11 (N o16 (N o293 (F o549) (F o805)) (N o421 (F o16) E)) (N o229 (N o357 (F o11) (F o11)) (N o11 (F o741) E)))) (N o23 (N o85 (N o149 (N o11 (F (o533 P)) (F o789)) (N o405 (F o661) (F o917))) (N o23 (N o341 (F o16) (F o853)) (N o469 (F o725) E))) (N o117 (N o11 (N o23 (F o565) (F (o821 P))) (N o16 (F o11) E)) (N o245 (N o16 (F o629) (F o11)) (N (o501 P) (F o16) E))))) (N o11 (N (o45 P) (N o77 (N o141 (N o269 (F o11) (F o781)) (N o397 (F o11) (F o11))) (N o11 (N o333 (F o499) (F o845)) (N o461 (F o16) E))) (N o16 (N o173 (N o301 (F o23) (F o16)) (N o11 (F o685) E)) (N o237 (N o212 (F o621) (F o877)) (N (o493 P) (F o11) E)))) (N o61 (N o93 (N o11 (N (o285 P) (F o541) (F o797)) (N o11 (F o499) (F o925))) (N o221 (N o11 (F o605) (F o861)) (N o477 (F o733) E))) (N o11 (N o189 (N o317 (F o11) (F o11)) (N o445 (F o701) E)) (N (o253 P) (N o381 (F o23) (F o23)) (N o11 (F o765) E)))))))) (N (v2_30 P) (N (boot_o_4 P) (N (boot_o_8 P) (N o16 (N o11 (N o64 (N o128 (N o256 (F o512) (F o768)) (N o384 (F o640) (F o896))) (N o192 (N o320 (F o576) (F o832)) (N o448 (F (o704 P)) E))) (N o96 (N o11 (N o288 (F o11) (F o800)) (N o416 (F o11) E)) (N o224 (N o352 (F o608) (F o864)) (N o480 (F o23) E)))) (N (o48 P) (N o11 (N o16 (N (o272 P) (F o11) (F o11)) (N (o400 P) (F o656) (F o912))) (N o11 (N o336 (F o11) (F o16)) (N o11 (F o720) E))) (N o112 (N o176 (N (o304 P) (F o560) (F o816)) (N o11 (F o688) E)) (N o16 (N o11 (F o11) (F o880)) (N o496 (F o11) E))))) (N (o24 P) (N o40 (N o72 (N o11 (N o264 (F (o520 P)) (F o776)) (N o11 (F o648) (F o904))) (N o200 (N o23 (F o584) (F o178)) (N o456 (F o11) E))) (N o11 (N o168 (N o11 (F (o552 P)) (F o808)) (N o424 (F o680) E)) (N o232 (N o360 (F o616) (F o872)) (N o11 (F o744) E)))) (N o56 (N o16 (N o152 (N o11 (F o536) (F o16)) (N o408 (F o664) (F o920))) (N o216 (N o344 (F o600) (F o856)) (N o23 (F o728) E))) (N o120 (N o184 (N o312 (F o568) (F o824)) (N o440 (F o696) E)) (N o248 (N o376 (F (o632 P)) (F o11)) (N o504 (F o760) E)))))) (N v12_77 (N o20 (N o36 (N o68 (N o132 (N o260 (F o516) (F o772)) (N o11 (F o16) (F o16))) (N o196 (N o324 (F o11) (F o836)) (N o452 (F o708) E))) (N o100 (N o11 (N o11 (F o548) (F o804)) (N o11 (F o11) E)) (N o228 (N o11 (F o612) (F (o868 P))) (N o484 (F o740) E)))) (N o11 (N o84 (N o148 (N o276 (F o532) (F o788)) (N o404 (F o11) (F o11))) (N o212 (N o340 (F o11) (F o852)) (N o468 (F o16) E))) (N o16 (N (o180 P) (N o232 (F o16) (F o23)) (N o11 (F o692) E)) (N o244 (N o11 (F o628) (F o884)) (N o23 (F o11) E))))) (N o28 (N o44 (N o11 (N o140 (N o268 (F o524) (F o780)) (N o396 (F o652) (F o908))) (N o204 (N o332 (F o588) (F o844)) (N o11 (F o11) E))) (N o11 (N (o172 P) (N o300 (F o499) (F o11)) (N o428 (F o16) E)) (N o236 (N o364 (F o11) (F o11)) (N o11 (F o748) E)))) (N o16 (N o92 (N o156 (N o284 (F o11) (F o796)) (N (o412 P) (F o668) (F o924))) (N o16 (N (o348 P) (F o16) (F o860)) (N o476 (F o732) E))) (N o124 (N o11 (N o16 (F o572) (F o828)) (N o16 (F o700) E)) (N o23 (N (o380 P) (F o499) (F o11)) (N o508 (F o16) E))))))) (N (boot_o_6 P) (N (boot_o_10 P) (N o11 (N o34 (N o66 (N (o130 P) (N o11 (F (o514 P)) (F o11)) (N o23 (F o642) (F o898))) (N o194 (N o322 (F o16) (F (o834 P))) (N o11 (F o706) E))) (N o98 (N o162 (N o23 (F o546) (F o802)) (N o16 (F o674) E)) (N o226 (N o16 (F o11) (F o178)) (N o482 (F o11) E)))) (N o50 (N o82 (N o11 (N o274 (F o530) (F (o786 P))) (N o402 (F o16) (F o16))) (N o210 (N o338 (F o594) (F o11)) (N o466 (F o722) E))) (N o114 (N o178 (N o306 (F o562) (F o818)) (N o434 (F o11) E)) (N o11 (N o370 (F o626) (F o882)) (N o498 (F o754) E))))) (N o26 (N o42 (N o23 (N (o138 P) (N (o266 P) (F o522) (F (o778 P))) (N o394 (F o11) (F o11))) (N o202 (N o11 (F o586) (F (o842 P))) (N o16 (F o714) E))) (N o106 (N o170 (N o298 (F o554) (F o810)) (N o426 (F o682) E)) (N (o234 P) (N o362 (F o16) (F o16)) (N o490 (F o746) E)))) (N o58 (N o11 (N o154 (N o282 (F o23) (F o11)) (N o178 (F o666) (F o922))) (N o218 (N o232 (F o602) (F o858)) (N o11 (F o730) E))) (N o11 (N o16 (N o314 (F o11) (F o11)) (N o442 (F (o698 P)) E)) (N o250 (N o378 (F o634) (F o890)) (N o11 (F o762) E)))))) (N o14 (N o11 (N o38 (N o70 (N o134 (N o262 (F o499) (F o774)) (N o390 (F o11) (F o11))) (N o11 (N o326 (F o582) (F o838)) (N o454 (F o16) E))) (N o16 (N o166 (N o294 (F o550) (F (o806 P))) (N o422 (F o678) E)) (N o230 (N o358 (F o614) (F o870)) (N o16 (F o11) E)))) (N (o54 P) (N o86 (N o150 (N o16 (F o534) (F o790)) (N o406 (F o662) (F o918))) (N (o214 P) (N (o342 P) (F o598) (F o11)) (N o470 (F o11) E))) (N o11 (N o182 (N (o310 P) (F o11) (F o11)) (N o438 (F o694) E)) (N o246 (N o374 (F o630) (F o16)) (N o11 (F o758) E))))) (N o16 (N (o46 P) (N o78 (N o142 (N o232 (F o16) (F o782)) (N o398 (F o654) (F o910))) (N o16 (N o11 (F o23) (F o846)) (N o462 (F o718) E))) (N o110 (N o174 (N o302 (F (o558 P)) (F o814)) (N o16 (F o11) E)) (N o238 (N o23 (F o622) (F o878)) (N o494 (F o16) E)))) (N o11 (N o11 (N o23 (N o286 (F o542) (F o11)) (N o414 (F o23) (F o926))) (N o11 (N o350 (F o11) (F (o862 P))) (N o11 (F o734) E))) (N o126 (N o190 (N o11 (F o574) (F o830)) (N o11 (F o499) E)) (N o11 (N o382 (F (o638 P)) (F (o894 P))) (N o510 (F o11) E)))))))))
noncomputable def tr78 (P : Params) : BT := (N (boot_o_0 P) (N (boot_o_1 P) (N (v3_78 P) (N (boot_o_7 P) (N o11 (N o31 (N o63 (N o127 (N o255 (N o511 (F o1023) E) (F o767)) (N o383 (F o11) (F o11))) (N o191 (N o319 (N o575 (F o1087) E) (F o831)) (N o447 (F o23) (F o959)))) (N o16 (N (o159 P) (N o287 (N o543 (F o1055) E) (F o16)) (N o415 (F (o671 P)) (F o11))) (N o223 (N o351 (F o607) (F o863)) (N o16 (F o11) (F o16))))) (N o47 (N o79 (N o11 (N o23 (N o527 (F o11) E) (F o783)) (N o399 (F o655) (F o911))) (N o207 (N o16 (F (o591 P)) (F o11)) (N o463 (F o11) (F o975)))) (N o11 (N o175 (N o303 (N o11 (F o1071) E) (F o11)) (N o431 (F o687) (F o943))) (N o11 (N (o367 P) (F o623) (F o879)) (N o495 (F o751) (F o11)))))) (N o23 (N o39 (N o71 (N o135 (N o263 (N o23 (F o1031) E) (F o775)) (N o391 (F o647) (F o903))) (N o16 (N o232 (F o583) (F o839)) (N o455 (F o711) (F o967)))) (N o103 (N o11 (N o295 (N o551 (F o11) E) (F o807)) (N o423 (F o11) (F o16))) (N o231 (N o359 (F o615) (F o871)) (N o487 (F o16) (F o999))))) (N o11 (N o11 (N (o151 P) (N o279 (N o535 (F o16) E) (F o11)) (N o407 (F o663) (F o919))) (N o11 (N o343 (F o11) (F o16)) (N o11 (F o727) (F o11)))) (N o119 (N o183 (N o11 (N o567 (F o1079) E) (F o823)) (N o11 (F o695) (F o11))) (N (o247 P) (N o11 (F o631) (F o887)) (N o503 (F o11) (F o1015))))))) (N o11 (N o19 (N o35 (N (o67 P) (N o131 (N o16 (N o515 (F o1027) E) (F o16)) (N (o387 P) (F o11) (F o11))) (N o195 (N (o323 P) (N o579 (F o1091) E) (F o835)) (N o16 (F o707) (F o16)))) (N o99 (N o163 (N (o291 P) (N o11 (F o1059) E) (F o803)) (N o419 (F o675) (F o931))) (N (o227 P) (N o355 (F o16) (F o23)) (N o483 (F o739) (F o995))))) (N (o51 P) (N o11 (N o147 (N o275 (N o531 (F o1043) E) (F o11)) (N o403 (F o659) (F o915))) (N o211 (N o339 (F o595) (F o851)) (N o11 (F o11) (F o11)))) (N o11 (N o23 (N o307 (N o11 (F o16) E) (F o11)) (N o435 (F o16) (F o947))) (N o243 (N o371 (F o11) (F o883)) (N o499 (F o755) (F o11)))))) (N o27 (N (o43 P) (N (o75 P) (N o11 (N o267 (N o523 (F o11) E) (F o779)) (N o11 (F o16) (F o16))) (N o203 (N o331 (F o587) (F o11)) (N o459 (F o715) (F o971)))) (N o107 (N o171 (N o11 (N o555 (F o11) E) (F o811)) (N o427 (F o11) (F o939))) (N o11 (N o363 (F o619) (F o875)) (N o491 (F o747) (F o1003))))) (N o11 (N o91 (N o155 (N o283 (N (o539 P) (F o1051) E) (F o795)) (N o23 (F o667) (F o923))) (N o11 (N o23 (F o11) (F o859)) (N o475 (F (o731 P)) (F o987)))) (N o16 (N o187 (N o11 (N o16 (F o1083) E) (F o16)) (N o11 (F o699) (F o11))) (N o232 (N o379 (F o635) (F o891)) (N o16 (F o11) (F o16)))))))) (N (boot_o_5 P) (N (boot_o_9 P) (N o17 (N o33 (N o65 (N o129 (N o257 (N o513 (F o11) E) (F o769)) (N o212 (F o641) (F o897))) (N (o193 P) (N o321 (N o11 (F (o1089 P)) E) (F o833)) (N o449 (F o11) (F o961)))) (N o11 (N o161 (N o232 (N o16 (F o1057) E) (F o11)) (N o11 (F o673) (F (o929 P)))) (N o225 (N o11 (F o609) (F o865)) (N o11 (F (o737 P)) (F o11))))) (N (o49 P) (N o16 (N o145 (N o11 (N o529 (F o1041) E) (F o23)) (N o401 (F o11) (F o11))) (N o209 (N o11 (F o593) (F o849)) (N o16 (F o721) (F o16)))) (N o113 (N o177 (N o305 (N o561 (F o1073) E) (F o817)) (N o433 (F o689) (F o945))) (N o241 (N o369 (F o16) (F (o881 P))) (N o497 (F o753) (F o1009)))))) (N o11 (N o41 (N o11 (N o23 (N o11 (N o11 (F o16) E) (F o777)) (N o16 (F o649) (F o905))) (N o11 (N (o329 P) (F (o585 P)) (F o23)) (N o11 (F o713) (F o11)))) (N o105 (N o169 (N o16 (N o553 (F o1065) E) (F o809)) (N (o425 P) (F o681) (F o11))) (N o23 (N (o361 P) (F o11) (F o11)) (N o489 (F o11) (F o1001))))) (N o57 (N o89 (N o153 (N o281 (N o499 (F o11) E) (F o793)) (N o409 (F (o665 P)) (F (o921 P)))) (N o217 (N o345 (F o601) (F o11)) (N (o473 P) (F o729) (F o985)))) (N o121 (N o11 (N o313 (N o569 (F o11) E) (F o825)) (N o441 (F o697) (F o953))) (N o249 (N o377 (F o633) (F o889)) (N o505 (F o761) (F o1017))))))) (N o13 (N o21 (N (o37 P) (N o69 (N o133 (N o11 (N o517 (F o1029) E) (F o11)) (N o389 (F o645) (F o901))) (N o197 (N o325 (N o581 (F o1093) E) (F o837)) (N o11 (F o11) (F o11)))) (N o11 (N o16 (N o293 (N o549 (F o16) E) (F o805)) (N o421 (F o16) (F o933))) (N o229 (N o357 (F o11) (F o11)) (N o11 (F o741) (F o11))))) (N o23 (N o85 (N o149 (N o11 (N (o533 P) (F o1045) E) (F o789)) (N o405 (F o661) (F o917))) (N o23 (N o341 (F o16) (F o853)) (N o469 (F o725) (F o981)))) (N o117 (N o11 (N o23 (N o565 (F o11) E) (F (o821 P))) (N o16 (F o11) (F o16))) (N o245 (N o16 (F o629) (F o11)) (N (o501 P) (F o16) (F o1013)))))) (N o11 (N (o45 P) (N o77 (N o141 (N o269 (N o11 (F o1037) E) (F o781)) (N o397 (F o11) (F o11))) (N o11 (N o333 (F o499) (F o845)) (N o461 (F o16) (F o973)))) (N o16 (N o173 (N o301 (N o23 (F o1069) E) (F o16)) (N o11 (F o685) (F o11))) (N o237 (N o212 (F o621) (F o877)) (N (o493 P) (F o11) (F o16))))) (N o61 (N o93 (N o11 (N (o285 P) (N o541 (F o11) E) (F o797)) (N o11 (F o499) (F o925))) (N o221 (N o11 (F o605) (F o861)) (N o477 (F o733) (F o989)))) (N o11 (N o189 (N o317 (N o11 (F o1085) E) (F o11)) (N o445 (F o701) (F o957))) (N (o253 P) (N o381 (F o23) (F o23)) (N o11 (F o765) (F o11))))))))) (N (v2_30 P) (N (boot_o_4 P) (N (boot_o_8 P) (N o16 (N o11 (N o64 (N o128 (N o256 (N o512 (F o1024) E) (F o768)) (N o384 (F o640) (F o896))) (N o192 (N o320 (N o576 (F o1088) E) (F o832)) (N o448 (F (o704 P)) (F o960)))) (N o96 (N o11 (N o288 (N o11 (F o11) E) (F o800)) (N o416 (F o11) (F o23))) (N o224 (N o352 (F o608) (F o864)) (N o480 (F o23) (F o992))))) (N (o48 P) (N o11 (N o16 (N (o272 P) (N o11 (F o16) E) (F o11)) (N (o400 P) (F o656) (F o912))) (N o11 (N o336 (F o11) (F o16)) (N o11 (F o720) (F o11)))) (N o112 (N o176 (N (o304 P) (N o560 (F o1072) E) (F o816)) (N o11 (F o688) (F o11))) (N o16 (N o11 (F o11) (F o880)) (N o496 (F o11) (F o1008)))))) (N (o24 P) (N o40 (N o72 (N o11 (N o264 (N (o520 P) (F o11) E) (F o776)) (N o11 (F o648) (F o904))) (N o200 (N o23 (F o584) (F o178)) (N o456 (F o11) (F o968)))) (N o11 (N o168 (N o11 (N (o552 P) (F o1064) E) (F o808)) (N o424 (F o680) (F o936))) (N o232 (N o360 (F o616) (F o872)) (N o11 (F o744) (F o11))))) (N o56 (N o16 (N o152 (N o11 (N o536 (F o1048) E) (F o16)) (N o408 (F o664) (F o920))) (N o216 (N o344 (F o600) (F o856)) (N o23 (F o728) (F o16)))) (N o120 (N o184 (N o312 (N o568 (F o1080) E) (F o824)) (N o440 (F o696) (F o952))) (N o248 (N o376 (F (o632 P)) (F o11)) (N o504 (F o760) (F o1016))))))) (N v12_78 (N o20 (N o36 (N o68 (N o132 (N o260 (N o516 (F o11) E) (F o772)) (N o11 (F o16) (F o16))) (N o196 (N o324 (N o11 (F o1092) E) (F o836)) (N o452 (F o708) (F o964)))) (N o100 (N o11 (N o11 (N o548 (F o11) E) (F o804)) (N o11 (F o11) (F o932))) (N o228 (N o11 (F o612) (F (o868 P))) (N o484 (F o740) (F o996))))) (N o11 (N o84 (N o148 (N o276 (N o532 (F o1044) E) (F o788)) (N o404 (F o11) (F o11))) (N o212 (N o340 (F o11) (F o852)) (N o468 (F o16) (F o980)))) (N o16 (N (o180 P) (N o232 (N o16 (F o1076) E) (F o23)) (N o11 (F o692) (F o11))) (N o244 (N o11 (F o628) (F o884)) (N o23 (F o11) (F o16)))))) (N o28 (N o44 (N o11 (N o140 (N o268 (N o524 (F o1036) E) (F o780)) (N o396 (F o652) (F o908))) (N o204 (N o332 (F o588) (F o844)) (N o11 (F o11) (F o11)))) (N o11 (N (o172 P) (N o300 (N o499 (F o16) E) (F o11)) (N o428 (F o16) (F o940))) (N o236 (N o364 (F o11) (F o11)) (N o11 (F o748) (F o11))))) (N o16 (N o92 (N o156 (N o284 (N o11 (F o1052) E) (F o796)) (N (o412 P) (F o668) (F o924))) (N o16 (N (o348 P) (F o16) (F o860)) (N o476 (F o732) (F o988)))) (N o124 (N o11 (N o16 (N o572 (F o11) E) (F o828)) (N o16 (F o700) (F o16))) (N o23 (N (o380 P) (F o499) (F o11)) (N o508 (F o16) (F o1020)))))))) (N (boot_o_6 P) (N (boot_o_10 P) (N o11 (N o34 (N o66 (N (o130 P) (N o11 (N (o514 P) (F o16) E) (F o11)) (N o23 (F o642) (F o898))) (N o194 (N o322 (N o16 (F o1090) E) (F (o834 P))) (N o11 (F o706) (F o11)))) (N o98 (N o162 (N o23 (N o546 (F o1058) E) (F o802)) (N o16 (F o674) (F o11))) (N o226 (N o16 (F o11) (F o178)) (N o482 (F o11) (F o994))))) (N o50 (N o82 (N o11 (N o274 (N o530 (F o11) E) (F (o786 P))) (N o402 (F o16) (F o16))) (N o210 (N o338 (F o594) (F o11)) (N o466 (F o722) (F o978)))) (N o114 (N o178 (N o306 (N o562 (F o11) E) (F o818)) (N o434 (F o11) (F o946))) (N o11 (N o370 (F o626) (F o882)) (N o498 (F o754) (F o1010)))))) (N o26 (N o42 (N o23 (N (o138 P) (N (o266 P) (N o522 (F o1034) E) (F (o778 P))) (N o394 (F o11) (F o11))) (N o202 (N o11 (F o586) (F (o842 P))) (N o16 (F o714) (F o16)))) (N o106 (N o170 (N o298 (N o554 (F o1066) E) (F o810)) (N o426 (F o682) (F o938))) (N (o234 P) (N o362 (F o16) (F o16)) (N o490 (F o746) (F o1002))))) (N o58 (N o11 (N o154 (N o282 (N o23 (F o1050) E) (F o11)) (N o178 (F o666) (F o922))) (N o218 (N o232 (F o602) (F o858)) (N o11 (F o730) (F o11)))) (N o11 (N o16 (N o314 (N o11 (F o16) E) (F o11)) (N o442 (F (o698 P)) (F o954))) (N o250 (N o378 (F o634) (F o890)) (N o11 (F o762) (F o11))))))) (N o14 (N o11 (N o38 (N o70 (N o134 (N o262 (N o499 (F o1030) E) (F o774)) (N o390 (F o11) (F o11))) (N o11 (N o326 (N o582 (F o1094) E) (F o838)) (N o454 (F o16) (F o966)))) (N o16 (N o166 (N o294 (N o550 (F o1062) E) (F (o806 P))) (N o422 (F o678) (F o11))) (N o230 (N o358 (F o614) (F o870)) (N o16 (F o11) (F o16))))) (N (o54 P) (N o86 (N o150 (N o16 (N o534 (F o11) E) (F o790)) (N o406 (F o662) (F o918))) (N (o214 P) (N (o342 P) (F o598) (F o11)) (N o470 (F o11) (F o982)))) (N o11 (N o182 (N (o310 P) (N o11 (F o1078) E) (F o11)) (N o438 (F o694) (F o950))) (N o246 (N o374 (F o630) (F o16)) (N o11 (F o758) (F o11)))))) (N o16 (N (o46 P) (N o78 (N o142 (N o232 (N o16 (F o1038) E) (F o782)) (N o398 (F o654) (F o910))) (N o16 (N o11 (F o23) (F o846)) (N o462 (F o718) (F o974)))) (N o110 (N o174 (N o302 (N (o558 P) (F o11) E) (F o814)) (N o16 (F o11) (F o16))) (N o238 (N o23 (F o622) (F o878)) (N o494 (F o16) (F o1006))))) (N o11 (N o11 (N o23 (N o286 (N o542 (F o16) E) (F o11)) (N o414 (F o23) (F o926))) (N o11 (N o350 (F o11) (F (o862 P))) (N o11 (F o734) (F o11)))) (N o126 (N o190 (N o11 (N o574 (F o1086) E) (F o830)) (N o11 (F o499) (F o11))) (N o11 (N o382 (F (o638 P)) (F (o894 P))) (N o510 (F o11) (F o1022))))))))))
noncomputable def tr88 (P : Params) : BT := (N (boot_o_0 P) (N (boot_o_1 P) (N (v3_88 P) (N (boot_o_7 P) (N o11 (N o31 (N o63 (N o127 (N o255 (N o511 (F o1023) E) (F o767)) (N o383 (N o11 (F o1151) E) (F o11))) (N o191 (N o319 (N o575 (F o1087) E) (F o831)) (N o447 (F o23) (F o959)))) (N o16 (N (o159 P) (N o287 (N o543 (F o1055) E) (F o16)) (N o415 (F (o671 P)) (F o11))) (N o223 (N o351 (N o607 (F o1119) E) (F o863)) (N o16 (F o11) (F o16))))) (N o47 (N o79 (N o11 (N o23 (N o527 (F o11) E) (F o783)) (N o399 (F o655) (F o911))) (N o207 (N o16 (N (o591 P) (F o11) E) (F o11)) (N o463 (F o11) (F o975)))) (N o11 (N o175 (N o303 (N o11 (F o1071) E) (F o11)) (N o431 (F o687) (F o943))) (N o11 (N (o367 P) (N o623 (F o11) E) (F o879)) (N o495 (F o751) (F o11)))))) (N o23 (N o39 (N o71 (N o135 (N o263 (N o23 (F o1031) E) (F o775)) (N o391 (F o647) (F o903))) (N o16 (N o232 (N o583 (F o11) E) (F o839)) (N o455 (F o711) (F o967)))) (N o103 (N o11 (N o295 (N o551 (F o11) E) (F o807)) (N o423 (F o11) (F o16))) (N o231 (N o359 (N o615 (F o1127) E) (F o871)) (N o487 (F o16) (F o999))))) (N o11 (N o11 (N (o151 P) (N o279 (N o535 (F o16) E) (F o11)) (N o407 (F o663) (F o919))) (N o11 (N o343 (N o11 (F o1111) E) (F o16)) (N o11 (F o727) (F o11)))) (N o119 (N o183 (N o11 (N o567 (F o1079) E) (F o823)) (N o11 (F o695) (F o11))) (N (o247 P) (N o11 (N o631 (F o16) E) (F o887)) (N o503 (F o11) (F o1015))))))) (N o11 (N o19 (N o35 (N (o67 P) (N o131 (N o16 (N o515 (F o1027) E) (F o16)) (N (o387 P) (F o11) (F o11))) (N o195 (N (o323 P) (N o579 (F o1091) E) (F o835)) (N o16 (F o707) (F o16)))) (N o99 (N o163 (N (o291 P) (N o11 (F o1059) E) (F o803)) (N o419 (F o675) (F o931))) (N (o227 P) (N o355 (N o16 (F o1123) E) (F o23)) (N o483 (F o739) (F o995))))) (N (o51 P) (N o11 (N o147 (N o275 (N o531 (F o1043) E) (F o11)) (N o403 (F o659) (F o915))) (N o211 (N o339 (N o595 (F o11) E) (F o851)) (N o11 (F o11) (F o11)))) (N o11 (N o23 (N o307 (N o11 (F o16) E) (F o11)) (N o435 (F o16) (F o947))) (N o243 (N o371 (N o11 (F o1139) E) (F o883)) (N o499 (F o755) (F o11)))))) (N o27 (N (o43 P) (N (o75 P) (N o11 (N o267 (N o523 (F o11) E) (F o779)) (N o11 (F o16) (F o16))) (N o203 (N o331 (N o587 (F o1099) E) (F o11)) (N o459 (F o715) (F o971)))) (N o107 (N o171 (N o11 (N o555 (F o11) E) (F o811)) (N o427 (F o11) (F o939))) (N o11 (N o363 (N o619 (F o11) E) (F o875)) (N o491 (F o747) (F o1003))))) (N o11 (N o91 (N o155 (N o283 (N (o539 P) (F o1051) E) (F o795)) (N o23 (F o667) (F o923))) (N o11 (N o23 (N o11 (F o16) E) (F o859)) (N o475 (F (o731 P)) (F o987)))) (N o16 (N o187 (N o11 (N o16 (F o1083) E) (F o16)) (N o11 (F o699) (F o11))) (N o232 (N o379 (N o635 (F o1147) E) (F o891)) (N o16 (F o11) (F o16)))))))) (N (boot_o_5 P) (N (boot_o_9 P) (N o17 (N o33 (N o65 (N o129 (N o257 (N o513 (F o11) E) (F o769)) (N o212 (N o641 (F o1153) E) (F o897))) (N (o193 P) (N o321 (N o11 (F (o1089 P)) E) (F o833)) (N o449 (F o11) (F o961)))) (N o11 (N o161 (N o232 (N o16 (F o1057) E) (F o11)) (N o11 (F o673) (F (o929 P)))) (N o225 (N o11 (N o609 (F o11) E) (F o865)) (N o11 (F (o737 P)) (F o11))))) (N (o49 P) (N o16 (N o145 (N o11 (N o529 (F o1041) E) (F o23)) (N o401 (F o11) (F o11))) (N o209 (N o11 (N o593 (F o1105) E) (F o849)) (N o16 (F o721) (F o16)))) (N o113 (N o177 (N o305 (N o561 (F o1073) E) (F o817)) (N o433 (F o689) (F o945))) (N o241 (N o369 (N o16 (F o1137) E) (F (o881 P))) (N o497 (F o753) (F o1009)))))) (N o11 (N o41 (N o11 (N o23 (N o11 (N o11 (F o16) E) (F o777)) (N o16 (F o649) (F o905))) (N o11 (N (o329 P) (N (o585 P) (F o1097) E) (F o23)) (N o11 (F o713) (F o11)))) (N o105 (N o169 (N o16 (N o553 (F o1065) E) (F o809)) (N (o425 P) (F o681) (F o11))) (N o23 (N (o361 P) (N o11 (F o16) E) (F o11)) (N o489 (F o11) (F o1001))))) (N o57 (N o89 (N o153 (N o281 (N o499 (F o11) E) (F o793)) (N o409 (F (o665 P)) (F (o921 P)))) (N o217 (N o345 (N o601 (F o1113) E) (F o11)) (N (o473 P) (F o729) (F o985)))) (N o121 (N o11 (N o313 (N o569 (F o11) E) (F o825)) (N o441 (F o697) (F o953))) (N o249 (N o377 (N o633 (F o11) E) (F o889)) (N o505 (F o761) (F o1017))))))) (N o13 (N o21 (N (o37 P) (N o69 (N o133 (N o11 (N o517 (F o1029) E) (F o11)) (N o389 (F o645) (F o901))) (N o197 (N o325 (N o581 (F o1093) E) (F o837)) (N o11 (F o11) (F o11)))) (N o11 (N o16 (N o293 (N o549 (F o16) E) (F o805)) (N o421 (F o16) (F o933))) (N o229 (N o357 (N o11 (F o1125) E) (F o11)) (N o11 (F o741) (F o11))))) (N o23 (N o85 (N o149 (N o11 (N (o533 P) (F o1045) E) (F o789)) (N o405 (F o661) (F o917))) (N o23 (N o341 (N o16 (F o1109) E) (F o853)) (N o469 (F o725) (F o981)))) (N o117 (N o11 (N o23 (N o565 (F o11) E) (F (o821 P))) (N o16 (F o11) (F o16))) (N o245 (N o16 (N o629 (F o1141) E) (F o11)) (N (o501 P) (F o16) (F o1013)))))) (N o11 (N (o45 P) (N o77 (N o141 (N o269 (N o11 (F o1037) E) (F o781)) (N o397 (F o11) (F o11))) (N o11 (N o333 (N o499 (F o16) E) (F o845)) (N o461 (F o16) (F o973)))) (N o16 (N o173 (N o301 (N o23 (F o1069) E) (F o16)) (N o11 (F o685) (F o11))) (N o237 (N o212 (N o621 (F o1133) E) (F o877)) (N (o493 P) (F o11) (F o16))))) (N o61 (N o93 (N o11 (N (o285 P) (N o541 (F o11) E) (F o797)) (N o11 (F o499) (F o925))) (N o221 (N o11 (N o605 (F o11) E) (F o861)) (N o477 (F o733) (F o989)))) (N o11 (N o189 (N o317 (N o11 (F o1085) E) (F o11)) (N o445 (F o701) (F o957))) (N (o253 P) (N o381 (N o23 (F o11) E) (F o23)) (N o11 (F o765) (F o11))))))))) (N (v2_30 P) (N (boot_o_4 P) (N (boot_o_8 P) (N o16 (N o11 (N o64 (N o128 (N o256 (N o512 (F o1024) E) (F o768)) (N o384 (N o640 (F o1152) E) (F o896))) (N o192 (N o320 (N o576 (F o1088) E) (F o832)) (N o448 (F (o704 P)) (F o960)))) (N o96 (N o11 (N o288 (N o11 (F o11) E) (F o800)) (N o416 (F o11) (F o23))) (N o224 (N o352 (N o608 (F o1120) E) (F o864)) (N o480 (F o23) (F o992))))) (N (o48 P) (N o11 (N o16 (N (o272 P) (N o11 (F o16) E) (F o11)) (N (o400 P) (F o656) (F o912))) (N o11 (N o336 (N o11 (F o1104) E) (F o16)) (N o11 (F o720) (F o11)))) (N o112 (N o176 (N (o304 P) (N o560 (F o1072) E) (F o816)) (N o11 (F o688) (F o11))) (N o16 (N o11 (N o11 (F o16) E) (F o880)) (N o496 (F o11) (F o1008)))))) (N (o24 P) (N o40 (N o72 (N o11 (N o264 (N (o520 P) (F o11) E) (F o776)) (N o11 (F o648) (F o904))) (N o200 (N o23 (N o584 (F o16) E) (F o178)) (N o456 (F o11) (F o968)))) (N o11 (N o168 (N o11 (N (o552 P) (F o1064) E) (F o808)) (N o424 (F o680) (F o936))) (N o232 (N o360 (N o616 (F o11) E) (F o872)) (N o11 (F o744) (F o11))))) (N o56 (N o16 (N o152 (N o11 (N o536 (F o1048) E) (F o16)) (N o408 (F o664) (F o920))) (N o216 (N o344 (N o600 (F o1112) E) (F o856)) (N o23 (F o728) (F o16)))) (N o120 (N o184 (N o312 (N o568 (F o1080) E) (F o824)) (N o440 (F o696) (F o952))) (N o248 (N o376 (N (o632 P) (F o1144) E) (F o11)) (N o504 (F o760) (F o1016))))))) (N o12 (N o20 (N o36 (N o68 (N o132 (N o260 (N o516 (F o11) E) (F o772)) (N o11 (F o16) (F o16))) (N o196 (N o324 (N o11 (F o1092) E) (F o836)) (N o452 (F o708) (F o964)))) (N o100 (N o11 (N o11 (N o548 (F o11) E) (F o804)) (N o11 (F o11) (F o932))) (N o228 (N o11 (N o612 (F o11) E) (F (o868 P))) (N o484 (F o740) (F o996))))) (N o11 (N o84 (N o148 (N o276 (N o532 (F o1044) E) (F o788)) (N o404 (F o11) (F o11))) (N o212 (N o340 (N o11 (F o16) E) (F o852)) (N o468 (F o16) (F o980)))) (N o16 (N (o180 P) (N o232 (N o16 (F o1076) E) (F o23)) (N o11 (F o692) (F o11))) (N o244 (N o11 (N o628 (F o1140) E) (F o884)) (N o23 (F o11) (F o16)))))) (N o28 (N o44 (N o11 (N o140 (N o268 (N o524 (F o1036) E) (F o780)) (N o396 (F o652) (F o908))) (N o204 (N o332 (N o588 (F o11) E) (F o844)) (N o11 (F o11) (F o11)))) (N o11 (N (o172 P) (N o300 (N o499 (F o16) E) (F o11)) (N o428 (F o16) (F o940))) (N o236 (N o364 (N o11 (F o1132) E) (F o11)) (N o11 (F o748) (F o11))))) (N o16 (N o92 (N o156 (N o284 (N o11 (F o1052) E) (F o796)) (N (o412 P) (F o668) (F o924))) (N o16 (N (o348 P) (N o16 (F o1116) E) (F o860)) (N o476 (F o732) (F o988)))) (N o124 (N o11 (N o16 (N o572 (F o11) E) (F o828)) (N o16 (F o700) (F o16))) (N o23 (N (o380 P) (N o499 (F o1148) E) (F o11)) (N o508 (F o16) (F o1020)))))))) (N (boot_o_6 P) (N (boot_o_10 P) (N o11 (N o34 (N o66 (N (o130 P) (N o11 (N (o514 P) (F o16) E) (F o11)) (N o23 (F o642) (F o898))) (N o194 (N o322 (N o16 (F o1090) E) (F (o834 P))) (N o11 (F o706) (F o11)))) (N o98 (N o162 (N o23 (N o546 (F o1058) E) (F o802)) (N o16 (F o674) (F o11))) (N o226 (N o16 (N o11 (F o16) E) (F o178)) (N o482 (F o11) (F o994))))) (N o50 (N o82 (N o11 (N o274 (N o530 (F o11) E) (F (o786 P))) (N o402 (F o16) (F o16))) (N o210 (N o338 (N o594 (F o1106) E) (F o11)) (N o466 (F o722) (F o978)))) (N o114 (N o178 (N o306 (N o562 (F o11) E) (F o818)) (N o434 (F o11) (F o946))) (N o11 (N o370 (N o626 (F o11) E) (F o882)) (N o498 (F o754) (F o1010)))))) (N o26 (N o42 (N o23 (N (o138 P) (N (o266 P) (N o522 (F o1034) E) (F (o778 P))) (N o394 (F o11) (F o11))) (N o202 (N o11 (N o586 (F o1098) E) (F (o842 P))) (N o16 (F o714) (F o16)))) (N o106 (N o170 (N o298 (N o554 (F o1066) E) (F o810)) (N o426 (F o682) (F o938))) (N (o234 P) (N o362 (N o16 (F o1130) E) (F o16)) (N o490 (F o746) (F o1002))))) (N o58 (N o11 (N o154 (N o282 (N o23 (F o1050) E) (F o11)) (N o178 (F o666) (F o922))) (N o218 (N o232 (N o602 (F o11) E) (F o858)) (N o11 (F o730) (F o11)))) (N o11 (N o16 (N o314 (N o11 (F o16) E) (F o11)) (N o442 (F (o698 P)) (F o954))) (N o250 (N o378 (N o634 (F o1146) E) (F o890)) (N o11 (F o762) (F o11))))))) (N o14 (N o11 (N o38 (N o70 (N o134 (N o262 (N o499 (F o1030) E) (F o774)) (N o390 (F o11) (F o11))) (N o11 (N o326 (N o582 (F o1094) E) (F o838)) (N o454 (F o16) (F o966)))) (N o16 (N o166 (N o294 (N o550 (F o1062) E) (F (o806 P))) (N o422 (F o678) (F o11))) (N o230 (N o358 (N o614 (F o1126) E) (F o870)) (N o16 (F o11) (F o16))))) (N (o54 P) (N o86 (N o150 (N o16 (N o534 (F o11) E) (F o790)) (N o406 (F o662) (F o918))) (N (o214 P) (N (o342 P) (N o598 (F o11) E) (F o11)) (N o470 (F o11) (F o982)))) (N o11 (N o182 (N (o310 P) (N o11 (F o1078) E) (F o11)) (N o438 (F o694) (F o950))) (N o246 (N o374 (N o630 (F o11) E) (F o16)) (N o11 (F o758) (F o11)))))) (N o16 (N (o46 P) (N o78 (N o142 (N o232 (N o16 (F o1038) E) (F o782)) (N o398 (F o654) (F o910))) (N o16 (N o11 (N o23 (F o1102) E) (F o846)) (N o462 (F o718) (F o974)))) (N o110 (N o174 (N o302 (N (o558 P) (F o11) E) (F o814)) (N o16 (F o11) (F o16))) (N o238 (N o23 (N o622 (F o1134) E) (F o878)) (N o494 (F o16) (F o1006))))) (N o11 (N o11 (N o23 (N o286 (N o542 (F o16) E) (F o11)) (N o414 (F o23) (F o926))) (N o11 (N o350 (N o11 (F o1118) E) (F (o862 P))) (N o11 (F o734) (F o11)))) (N o126 (N o190 (N o11 (N o574 (F o1086) E) (F o830)) (N o11 (F o499) (F o11))) (N o11 (N o382 (N (o638 P) (F o16) E) (F (o894 P))) (N o510 (F o11) (F o1022))))))))))
theorem pc0 (w : World) (os : OsState) : tkRun tkTab pw w 11 (some (.ref 6)) 1 2203 (ST (tr0 w.params) 15 187 os) (thr (sts 0 15) ⟨0,0,0,0⟩) = some (.next, ST (tr15 w.params) 232 487 os, codeT, ⟨67,0,71,34⟩) := by kernel_rfl
theorem pc15 (w : World) (os : OsState) : tkRun tkTab pw w 11 (some (.ref 6)) 1 2263 (ST (tr15 w.params) 232 487 os) (thr (sts 15 15) ⟨67,0,71,34⟩) = some (.next, ST (tr30 w.params) 410 751 os, codeT, ⟨123,0,123,8⟩) := by kernel_rfl
theorem pc30 (w : World) (os : OsState) : tkRun tkTab pw w 11 (some (.ref 6)) 1 817 (ST (tr30 w.params) 410 751 os) (thr (sts 30 21) ⟨123,0,123,8⟩) = some (.next, ST (tr51 w.params) 499 895 os, codeT, ⟨172,0,179,16⟩) := by kernel_rfl
theorem pc51 (w : World) (os : OsState) : tkRun tkTab pw w 11 (some (.ref 6)) 1 1813 (ST (tr51 w.params) 499 895 os) (thr (sts 51 6) ⟨172,0,179,16⟩) = some (.next, ST (tr57 w.params) 669 1123 os, codeT, ⟨228,0,239,16⟩) := by kernel_rfl
theorem pc57 (w : World) (os : OsState) : tkRun tkTab pw w 11 (some (.ref 6)) 1 1090 (ST (tr57 w.params) 669 1123 os) (thr (sts 57 13) ⟨228,0,239,16⟩) = some (.next, ST (tr70 w.params) 784 1293 os, codeT, ⟨274,0,294,35⟩) := by kernel_rfl
theorem pc70 (w : World) (os : OsState) : tkRun tkTab pw w 11 (some (.ref 6)) 1 1365 (ST (tr70 w.params) 784 1293 os) (thr (sts 70 7) ⟨274,0,294,35⟩) = some (.next, ST (tr77 w.params) 927 1498 os, codeT, ⟨344,0,353,39⟩) := by kernel_rfl
theorem pc77 (w : World) (os : OsState) : tkRun tkTab pw w 11 (some (.ref 6)) 1 943 (ST (tr77 w.params) 927 1498 os) (thr (sts 77 1) ⟨344,0,353,39⟩) = some (.next, ST (tr78 w.params) 1095 1743 os, codeT, ⟨354,0,559,49⟩) := by kernel_rfl
theorem pc78 (w : World) (os : OsState) : tkRun tkTab pw w 11 (some (.ref 6)) 1 296 (ST (tr78 w.params) 1095 1743 os) (thr (sts 78 10) ⟨354,0,559,49⟩) = some (.next, ST (tr88 w.params) 1154 1837 os, codeT, ⟨625,0,640,114⟩) := by kernel_rfl
noncomputable def looseE : List Str := [Str.ofString "_wall", Str.ofString "Special", Str.ofString "EMPTY", Str.ofString "UNSPECIFIED", Str.ofString "UNASSIGNED", Str.ofString "Symbol", Str.ofString "SymbolTable", Str.ofString "Pair", Str.ofString "Procedure", Str.ofString "Primitive", Str.ofString "list_of", Str.ofString "is_true", Str.ofString "SchemeError", Str.ofString "Unbound", Str.ofString "Unassigned", Str.ofString "NotProcedure", Str.ofString "WrongArity", Str.ofString "WrongValues", Str.ofString "WrongKind", Str.ofString "OutOfSteps", Str.ofString "MachineFault", Str.ofString "CoreError", Str.ofString "APPLY", Str.ofString "VALUES", Str.ofString "CALL_WITH_VALUES", Str.ofString "CALL_CC", Str.ofString "CONTROLS", Str.ofString "ControlPrimitive", Str.ofString "control_row", Str.ofString "control_name", Str.ofString "count_fits", Str.ofString "check_control", Str.ofString "list_values", Str.ofString "spread", Str.ofString "CONST", Str.ofString "LOCAL", Str.ofString "GLOBAL", Str.ofString "SET_LOCAL", Str.ofString "SET_GLOBAL", Str.ofString "DEFINE", Str.ofString "IF", Str.ofString "LAMBDA", Str.ofString "CALL", Str.ofString "SEQ", Str.ofString "PRIM", Str.ofString "FIX", Str.ofString "Node", Str.ofString "Const", Str.ofString "Local", Str.ofString "Global", Str.ofString "If", Str.ofString "Lambda", Str.ofString "Call", Str.ofString "Seq", Str.ofString "Fix", Str.ofString "LOOKING", Str.ofString "CALLING", Str.ofString "GIVING", Str.ofString "TEST", Str.ofString "ASSIGN", Str.ofString "OPERANDS", Str.ofString "SEQUENCE", Str.ofString "PRIMITIVE", Str.ofString "CONSUMER", Str.ofString "Globals", Str.ofString "Scope", Str.ofString "scope_of", Str.ofString "Frame", Str.ofString "Closure", Str.ofString "Continuation", Str.ofString "assigned_locals", Str.ofString "BareLibrary", Str.ofString "Interpreter", Str.ofString "_law_deck", Str.ofString "_law_draw", Str.ofString "_law_one", Str.ofString "_law_fresh", Str.ofString "_law_last", Str.ofString "_law_waiting", Str.ofString "_law_made", Str.ofString "_law_due"]
noncomputable def view : Program := { pw with main := { pw.main with body := [at1 87] } }
noncomputable def K (P : Params) : Frag := [(2, v2_30 P), (3, v3_88 P), (20, o20), (21, o21), (27, o27), (34, o34), (35, o35), (37, o37 P), (38, o38), (39, o39), (40, o40), (44, o44), (47, o47), (50, o50), (57, o57), (64, o64), (65, o65), (67, o67 P), (68, o68), (69, o69), (70, o70), (78, o78), (85, o85), (86, o86), (92, o92), (93, o93), (99, o99), (100, o100), (106, o106), (107, o107), (113, o113), (114, o114), (120, o120), (121, o121), (127, o127), (128, o128), (130, o130 P), (131, o131), (132, o132), (133, o133), (141, o141), (148, o148), (149, o149), (151, o151 P), (152, o152), (153, o153), (154, o154), (162, o162), (169, o169), (170, o170), (172, o172 P), (173, o173), (174, o174), (175, o175), (183, o183), (190, o190), (191, o191), (193, o193 P), (194, o194), (203, o203), (204, o204), (210, o210), (211, o211), (217, o217), (224, o224), (225, o225), (227, o227 P), (228, o228), (229, o229), (237, o237), (244, o244), (245, o245), (247, o247 P), (248, o248), (256, o256), (263, o263), (264, o264), (266, o266 P), (267, o267), (275, o275), (282, o282), (283, o283), (285, o285 P), (286, o286), (294, o294), (301, o301), (302, o302), (304, o304 P), (305, o305), (313, o313), (320, o320), (321, o321), (323, o323 P), (324, o324), (332, o332), (339, o339), (340, o340), (342, o342 P), (343, o343), (351, o351), (358, o358), (359, o359), (361, o361 P), (362, o362), (370, o370), (377, o377), (378, o378), (380, o380 P), (381, o381), (382, o382), (390, o390), (397, o397), (398, o398), (400, o400 P), (401, o401), (402, o402), (405, o405), (406, o406), (407, o407), (408, o408), (409, o409), (415, o415), (422, o422), (423, o423), (425, o425 P), (426, o426), (434, o434), (435, o435), (441, o441), (442, o442), (448, o448), (449, o449), (455, o455), (456, o456), (462, o462), (463, o463), (469, o469), (470, o470), (476, o476), (483, o483), (484, o484), (490, o490), (491, o491), (493, o493 P), (494, o494), (495, o495), (496, o496), (504, o504), (511, o511), (512, o512), (514, o514 P), (515, o515), (523, o523), (530, o530), (531, o531), (533, o533 P), (534, o534), (542, o542), (549, o549), (550, o550), (552, o552 P), (553, o553), (561, o561), (568, o568), (569, o569), (575, o575), (576, o576), (582, o582), (583, o583), (585, o585 P), (586, o586), (594, o594), (601, o601), (602, o602), (608, o608), (609, o609), (615, o615), (616, o616), (622, o622), (623, o623), (629, o629), (630, o630), (632, o632 P), (633, o633), (641, o641), (648, o648), (649, o649), (655, o655), (656, o656), (662, o662), (663, o663), (665, o665 P), (666, o666), (674, o674), (681, o681), (682, o682), (688, o688), (689, o689), (695, o695), (696, o696), (698, o698 P), (699, o699), (707, o707), (714, o714), (715, o715), (721, o721), (722, o722), (728, o728), (729, o729), (731, o731 P), (732, o732), (740, o740), (747, o747), (748, o748), (754, o754), (755, o755), (761, o761), (762, o762), (768, o768), (769, o769), (775, o775), (776, o776), (778, o778 P), (779, o779), (780, o780), (781, o781), (789, o789), (796, o796), (797, o797), (803, o803), (804, o804), (806, o806 P), (807, o807), (808, o808), (809, o809), (817, o817), (818, o818), (824, o824), (831, o831), (832, o832), (834, o834 P), (835, o835), (836, o836), (837, o837), (845, o845), (852, o852), (853, o853), (859, o859), (860, o860), (862, o862 P), (863, o863), (871, o871), (878, o878), (879, o879), (881, o881 P), (882, o882), (890, o890), (891, o891), (897, o897), (904, o904), (905, o905), (911, o911), (912, o912), (918, o918), (919, o919), (921, o921 P), (922, o922), (923, o923), (924, o924), (932, o932), (939, o939), (940, o940), (946, o946), (947, o947), (953, o953), (954, o954), (960, o960), (961, o961), (967, o967), (968, o968), (974, o974), (975, o975), (981, o981), (982, o982), (988, o988), (989, o989), (995, o995), (996, o996), (1002, o1002), (1003, o1003), (1009, o1009), (1010, o1010), (1016, o1016), (1017, o1017), (1023, o1023), (1024, o1024), (1030, o1030), (1031, o1031), (1037, o1037), (1038, o1038), (1044, o1044), (1045, o1045), (1051, o1051), (1052, o1052), (1058, o1058), (1059, o1059), (1065, o1065), (1066, o1066), (1072, o1072), (1073, o1073), (1079, o1079), (1080, o1080), (1086, o1086), (1087, o1087), (1089, o1089 P), (1090, o1090), (1091, o1091), (1092, o1092), (1098, o1098), (1099, o1099), (1105, o1105), (1106, o1106), (1112, o1112), (1113, o1113), (1119, o1119), (1120, o1120), (1126, o1126), (1127, o1127), (1133, o1133), (1134, o1134), (1140, o1140), (1141, o1141), (1147, o1147), (1148, o1148), (1152, o1152), (1153, o1153)]
noncomputable def Kas : List Addr := [2, 3, 20, 21, 27, 34, 35, 37, 38, 39, 40, 44, 47, 50, 57, 64, 65, 67, 68, 69, 70, 78, 85, 86, 92, 93, 99, 100, 106, 107, 113, 114, 120, 121, 127, 128, 130, 131, 132, 133, 141, 148, 149, 151, 152, 153, 154, 162, 169, 170, 172, 173, 174, 175, 183, 190, 191, 193, 194, 203, 204, 210, 211, 217, 224, 225, 227, 228, 229, 237, 244, 245, 247, 248, 256, 263, 264, 266, 267, 275, 282, 283, 285, 286, 294, 301, 302, 304, 305, 313, 320, 321, 323, 324, 332, 339, 340, 342, 343, 351, 358, 359, 361, 362, 370, 377, 378, 380, 381, 382, 390, 397, 398, 400, 401, 402, 405, 406, 407, 408, 409, 415, 422, 423, 425, 426, 434, 435, 441, 442, 448, 449, 455, 456, 462, 463, 469, 470, 476, 483, 484, 490, 491, 493, 494, 495, 496, 504, 511, 512, 514, 515, 523, 530, 531, 533, 534, 542, 549, 550, 552, 553, 561, 568, 569, 575, 576, 582, 583, 585, 586, 594, 601, 602, 608, 609, 615, 616, 622, 623, 629, 630, 632, 633, 641, 648, 649, 655, 656, 662, 663, 665, 666, 674, 681, 682, 688, 689, 695, 696, 698, 699, 707, 714, 715, 721, 722, 728, 729, 731, 732, 740, 747, 748, 754, 755, 761, 762, 768, 769, 775, 776, 778, 779, 780, 781, 789, 796, 797, 803, 804, 806, 807, 808, 809, 817, 818, 824, 831, 832, 834, 835, 836, 837, 845, 852, 853, 859, 860, 862, 863, 871, 878, 879, 881, 882, 890, 891, 897, 904, 905, 911, 912, 918, 919, 921, 922, 923, 924, 932, 939, 940, 946, 947, 953, 954, 960, 961, 967, 968, 974, 975, 981, 982, 988, 989, 995, 996, 1002, 1003, 1009, 1010, 1016, 1017, 1023, 1024, 1030, 1031, 1037, 1038, 1044, 1045, 1051, 1052, 1058, 1059, 1065, 1066, 1072, 1073, 1079, 1080, 1086, 1087, 1089, 1090, 1091, 1092, 1098, 1099, 1105, 1106, 1112, 1113, 1119, 1120, 1126, 1127, 1133, 1134, 1140, 1141, 1147, 1148, 1152, 1153]
theorem Kas_ok (P : Params) : Kas = (K P).map (·.1) := by kernel_rfl
noncomputable abbrev hook : Hook := kHook K Kas Kas_ok
noncomputable abbrev row : OpenRow := PySem.Challenge.rw_nt0221_01.row
noncomputable abbrev Xt : Shared → Bool := fun s => xlAt view [] s && recOk (RowW.records row.toRowW) s
noncomputable def H1 (P : Params) : Heap := absHeap (tr88 P) 1154 L0
noncomputable abbrev S1 (P : Params) (os : OsState) : Shared := ⟨H1 P, #[], boot_drawn, 1837, os⟩
theorem lk1 (P : Params) (os : OsState) : (staticsOk (importedModules pw.main.body) (boot_heap P) (H1 P) && namesBound pw (H1 P) && gensDone (S1 P os) && laidKept (boot_heap P) (H1 P)) = true := by kernel_rfl
theorem lkA (P : Params) : ((K P).all fun p => Nat.ble (p.1 + 1) 1154) = true := by kernel_rfl
theorem lkB (P : Params) : (K P).map (fun p => (tr88 P).get p.1) = (K P).map fun p => some p.2 := by kernel_rfl
theorem lkC (P : Params) : (K P).map (fun p => alive p.2) = (K P).map fun p => some p.2 := by kernel_rfl
theorem lk3 (w : World) (os : OsState) : hook.obs (S1 w.params os) = hook.val w := by
  show Kas.map (H1 w.params).get? = (K w.params).map fun p => some p.2
  rw [Kas_ok w.params, List.map_map]
  exact List.map_congr_left fun p hp => (abs_get (Nat.le_of_ble_eq_true (List.all_eq_true.mp (lkA w.params) p hp)) (List.map_inj_left.mp (lkB w.params) p hp)).trans (List.map_inj_left.mp (lkC w.params) p hp)
theorem lk2 (w : World) (os : OsState) : openSeen view looseE (importedModules pw.main.body) Xt true (S1 w.params os) = openGood view looseE := by kernel_rfl
end HD
end
section
open PySem PySem.W PyProof.Rows PySem.Calls
namespace HD
theorem tk_run : @segRunT treeTable = @tkRun tkTab := by
  show @segRunT treeTable = @PySem.W.Fast.tw10110043849684766642 PySem.W.Fast.tw14364793385576792824
  rw [← PySem.W.Fast.te10110043849684766642, ← PySem.W.Fast.te14364793385576792824]
theorem tk_execs : @execs = @tkExecs := PySem.W.Fast.te12563942051412417395
theorem piece {w : World} {os : OsState} {N n k n' k' : Nat} {T T' : BT} {l : List Stmt} {p p' : Pos}
    (h : tkRun tkTab pw w 11 (some (.ref 6)) 1 N (ST T n k os) (thr l p) = some (.next, ST T' n' k' os, codeT, p')) :
    segRun treeTable pw w 11 (some (.ref 6)) 1 N (ST T n k os).abs (piecesOf l envT codeT p Bt) = some (.next, (ST T' n' k' os).abs, codeT, p') := by
  refine segRun_of ?_
  rw [tk_run]
  show tkRun tkTab pw w 11 (some (.ref 6)) 1 N (ST T n k os) ⟨(execs l envT).wrap doneF deadEnd id id, codeT, p, Bt⟩ = _
  rw [tk_execs]
  exact h
theorem body_cut : bodyE = sts 0 15 ++ (sts 15 15 ++ (sts 30 21 ++ (sts 51 6 ++ (sts 57 13 ++ (sts 70 7 ++ (sts 77 1 ++ (sts 78 10 ++ []))))))) := by kernel_rfl
theorem beh : behindTheImports pw = bodyE := by kernel_rfl
theorem preR (w : World) (os : OsState) : topGo treeTable pw w 11 (some (.ref 6)) 12 ⟨boot_heap w.params, #[], boot_drawn, boot_toks, os⟩ (topStub pw) = some ((ST (tr0 w.params) 15 187 os).abs, ⟨denote treeTable codeT, codeT, ⟨0, 0, 0, 0⟩, Bt⟩) := by kernel_rfl
theorem blockR (w : World) (os : OsState) : segRun treeTable pw w 11 (some (.ref 6)) 1 1 (ST (tr0 w.params) 15 187 os).abs (blockOf bodyE envT codeT ⟨0, 0, 0, 0⟩ Bt) = some (.next, (ST (tr0 w.params) 15 187 os).abs, codeT, ⟨0, 0, 0, 0⟩) := by kernel_rfl
theorem finR (w : World) (os : OsState) : topRun treeTable pw w 11 (some (.ref 6)) 2 (ST (tr88 w.params) 1154 1837 os).abs ⟨doneF .next, codeT, ⟨625, 0, 640, 114⟩, Bt⟩ = some (ST (tr88 w.params) 1154 1837 os).abs := by kernel_rfl
theorem runR (w : World) (os : OsState) : topRun treeTable pw w 11 (some (.ref 6)) (12 + (1 + (2203 + (2263 + (817 + (1813 + (1090 + (1365 + (943 + (296 + 2)))))))))) ⟨boot_heap w.params, #[], boot_drawn, boot_toks, os⟩ (topStub pw) = some (ST (tr88 w.params) 1154 1837 os).abs := by
  refine go_top (preR w os) ?_
  have h : topRun treeTable pw w 11 (some (.ref 6)) (2203 + (2263 + (817 + (1813 + (1090 + (1365 + (943 + (296 + 2)))))))) (ST (tr0 w.params) 15 187 os).abs (restOf bodyE envT codeT ⟨0, 0, 0, 0⟩ Bt) = some (ST (tr88 w.params) 1154 1837 os).abs := by
    rw [body_cut]
    exact (piece_app (piece (pc0 w os)) (piece_app (piece (pc15 w os)) (piece_app (piece (pc30 w os)) (piece_app (piece (pc51 w os)) (piece_app (piece (pc57 w os)) (piece_app (piece (pc70 w os)) (piece_app (piece (pc77 w os)) (piece_app (piece (pc78 w os)) (piece_nil (finR w os))))))))))
  have e : (denote treeTable codeT) = denote treeTable (.body bodyE envT) := by unfold codeT; rw [beh]
  rw [e]
  exact piece_block (blockR w os) h
theorem openR : ∀ w : World, (fencedOpening treeTable pw w 22000).map (fun s => (s.heap, s.gens, s.drawn, s.toks)) = some (boot_heap w.params, Array.mk [], boot_drawn, boot_toks) :=
  boot_open (by kernel_rfl) (by decide +kernel) (fun s => by kernel_rfl)
theorem sizeR (w : World) : ((boot_heap w.params).isNs mainGlobals && (#[] : Array GenState).size == 0, (boot_heap w.params).objs.size, (boot_heap w.params).nsMap mainGlobals "__annotations__") = (true, 11, some (.ref 6)) := by kernel_rfl
theorem left : LeftO pw view looseE Xt hook.obs hook.val 22000 :=
  LeftO.of_pieces (H₀ := boot_heap) (H₁ := H1) (gs₀ := #[]) (gs₁ := #[]) (d₀ := boot_drawn) (d₁ := boot_drawn) (k₀ := boot_toks) (k₁ := 1837) (m₀ := 11) (ann := some (.ref 6)) (M := 12 + (1 + (2203 + (2263 + (817 + (1813 + (1090 + (1365 + (943 + (296 + 2))))))))))
    openR sizeR runR (by decide +kernel) (fun w => funext fun os => Prod.ext (lk1 w.params os) (Prod.ext (lk2 w os) (lk3 w os)))
set_option maxHeartbeats 8000000 in
theorem law_said : PySem.Challenge.rw_nt0221_01.wellSaid = true := by
  unfold OpenLaw.wellSaid OpenRow.wellSaid OpenRow.partSaid looksOpen
  repeat' with_reducible apply look_both
  all_goals decide +kernel
noncomputable def lawD : DefRec := { name := Str.ofString "law", params := dArgs (at1 87), body := dBody (at1 87), scope := dScope (at1 87), pos := ⟨625, 0, 640, 114⟩ }
noncomputable abbrev LawWalk : Prop := WalkO view looseE (XL view []) hook.says row.toRowW lawD [] fun f vs => PySem.call f vs
set_option maxHeartbeats 8000000 in
theorem hdT (call : LawWalk) : PySem.Challenge.rw_nt0221_01.Holds := by
  refine holds_law law_said fun said => ?_
  refine holds_open (r := row) (q := view) (loose := looseE) (Xt := Xt) (XP := XL view []) (Yf := hook.obs) (Ya := hook.val) (YP := hook.says) (N := 22000) (d := lawD) (kwd := []) left hook.of hook.keeps (fun s e => xl_of s (Bool.and_eq_true_iff.mp e).1) XL.keeps ?h1 ?h2 ?h3 (fun s e => recFacts_of (Bool.and_eq_true_iff.mp e).2) (by rfl) said ?h4 ⟨rfl, rfl, rfl, rfl, rfl, by decide +kernel⟩ ?hw call
  case h1 => kernel_rfl
  case h2 => kernel_rfl
  case h3 => kernel_rfl
  case h4 =>
    unfold opensWell Program.tameTopW
    repeat' with_reducible apply look_both
    all_goals decide +kernel
  case hw => exact ⟨[.list []], by decide +kernel, by decide +kernel⟩
end HD
end
section
open PySem PySem.W PyProof.Rows PySem.Calls
namespace MP
inductive Bi where
  | len | isinst | absB | sortedB | reprB | append | pop
inductive V where
  | none | bool (b : Bool) | int (i : Int) | str (x : Str) | ref (i : Nat) | val (a : Addr) | bi (b : Bi) | tyBool | tyList | opq (j : Nat)
inductive O where
  | inst (C : Addr) (fs : List (Nat × V))
  | list (xs : List V)
  | tup (xs : List V)
  | dict (es : List (Int × V))
noncomputable abbrev H := List O
noncomputable abbrev Loc := List (Nat × V)
inductive ME where
  | nm (i : Nat) | cst (v : V)
  | attr (e : ME) (a : Nat)
  | call (f : ME) (es : List ME)
  | meth (o : ME) (a : Nat) (es : List ME)
  | bin (op : Operator) (l r : ME)
  | cmp (op : CmpOp) (l r : ME)
  | chain (o1 o2 : CmpOp) (a b c : ME)
  | and (a b : ME) | or (a b : ME) | not (e : ME) | neg (e : ME)
  | ite (c a b : ME)
  | list (es : List ME) | tup (es : List ME) | dict0
  | sub (e i : ME) | from (e lo : ME)
  | stop
inductive MS where
  | asgN (i : Nat) (e : ME) | asgA (o : ME) (a : Nat) (e : ME) | asgS (o i e : ME) | asgT (rev : Bool) (is : List Nat) (e : ME)
  | augA (o : ME) (a : Nat) (op : Operator) (e : ME)
  | ifS (c : ME) (t e : List MS) | whileS (c : ME) (b : List MS)
  | forR (i : Nat) (es : List ME) (b : List MS) | forL (is : List Nat) (e : ME) (b : List MS)
  | ret (e : ME) | expr (e : ME) | stop
inductive Fl where
  | next | ret (v : V) | brk | cont
structure FX where
  params : List Nat
  body : List MS
structure CX where
  init : Option Addr
  own : List Nat
  meths : List (Nat × Addr)
  vals : List (Nat × V)
  mro : List Addr
  non : List Addr
  cm : List (Nat × Addr)
structure Tab where
  fn : List (Addr × FX)
  cl : List (Addr × CX)
  ob : List Addr
  tp : List (Addr × List V)
  mu : Nat → Bool
  ok : Nat → Bool
  inc : Nat → Option Nat
  cmp : CmpOp → V → V → Option Bool
noncomputable def gd {α : Type} : Bool → Option α → Option α
  | true, x => x
  | false, _ => none
noncomputable def ob {α : Type} (x : Option α) (f : α → Bool) : Bool := match x with
  | some a => f a
  | none => false
noncomputable def lk {α : Type} : List (Nat × α) → Nat → Option α
  | [], _ => none
  | (k, v) :: l, i => bif Nat.beq k i then some v else lk l i
noncomputable def put {α : Type} : List (Nat × α) → Nat → α → List (Nat × α)
  | [], i, v => [(i, v)]
  | (k, u) :: l, i, v => bif Nat.beq k i then (k, v) :: l else (k, u) :: put l i v
noncomputable def lkI : List (Int × V) → Int → Option V
  | [], _ => none
  | (k, v) :: l, i => if k = i then some v else lkI l i
noncomputable def at? {α : Type} : List α → Nat → Option α
  | [], _ => none
  | x :: _, 0 => some x
  | _ :: l, i + 1 => at? l i
noncomputable def setAt {α : Type} : List α → Nat → α → List α
  | [], _, _ => []
  | _ :: l, 0, y => y :: l
  | x :: l, i + 1, y => x :: setAt l i y
noncomputable def mem (l : List Nat) (i : Nat) : Bool := match l with
  | [] => false
  | k :: l => bif Nat.beq k i then true else mem l i
noncomputable abbrev CF := V → List V → H → Option (V × H)
noncomputable def isCst : V → Bool
  | .ref _ => false
  | .opq _ => false
  | _ => true
noncomputable def isBi : V → Bool
  | .bi _ => true
  | _ => false
noncomputable def refV (v : V) : Option {i : Nat // v = .ref i} := match v with
  | .ref i => some ⟨i, rfl⟩
  | _ => none
noncomputable def intV (v : V) : Option {i : Int // v = .int i} := match v with
  | .int i => some ⟨i, rfl⟩
  | _ => none
noncomputable def strV (v : V) : Option {i : Str // v = .str i} := match v with
  | .str i => some ⟨i, rfl⟩
  | _ => none
noncomputable def truth (v : V) : Option {b : Bool // v = .bool b} := match v with
  | .bool b => some ⟨b, rfl⟩
  | _ => none
noncomputable def listO (o : O) : Option {xs : List V // o = .list xs} := match o with
  | .list xs => some ⟨xs, rfl⟩
  | _ => none
noncomputable def tupO (o : O) : Option {xs : List V // o = .tup xs} := match o with
  | .tup xs => some ⟨xs, rfl⟩
  | _ => none
noncomputable def dictO (o : O) : Option {xs : List (Int × V) // o = .dict xs} := match o with
  | .dict xs => some ⟨xs, rfl⟩
  | _ => none
noncomputable def listAt (σ : H) (i : Nat) : Option (List V) := (at? σ i).bind fun o => (listO o).map (·.1)
noncomputable def tupAt (σ : H) (i : Nat) : Option (List V) := (at? σ i).bind fun o => (tupO o).map (·.1)
noncomputable def dictAt (σ : H) (i : Nat) : Option (List (Int × V)) := (at? σ i).bind fun o => (dictO o).map (·.1)
noncomputable def arg1 {α : Type} (l : List α) : Option {a : α // l = [a]} := match l with
  | [a] => some ⟨a, rfl⟩
  | _ => none
noncomputable def arg2 {α : Type} (l : List α) : Option {p : α × α // l = [p.1, p.2]} := match l with
  | [a, b] => some ⟨(a, b), rfl⟩
  | _ => none
noncomputable def instO (o : O) : Option {p : Addr × List (Nat × V) // o = .inst p.1 p.2} := match o with
  | .inst C fs => some ⟨(C, fs), rfl⟩
  | _ => none
noncomputable def okV (T : Tab) : V → Bool
  | .bi _ => false
  | .opq j => T.ok j
  | _ => true
noncomputable def getF (T : Tab) (cx : CX) (a : Nat) (x : Option V) : Option V := match x with
  | some v => gd (okV T v) (gd (mem cx.own a) (some v))
  | none => lk cx.vals a
noncomputable def getO (T : Tab) (a : Nat) (o : O) : Option V := (instO o).bind fun p => (lk T.cl p.1.1).bind fun cx => getF T cx a (lk p.1.2 a)
noncomputable def getA (T : Tab) (v : V) (a : Nat) (σ : H) : Option V := (refV v).bind fun i => (at? σ i.1).bind (getO T a)
noncomputable def methF (cx : CX) (a i : Nat) (x : Option V) : Option (V × List V) := match x with
  | some _ => none
  | none => (lk cx.meths a).map fun f => (.val f, [.ref i])
noncomputable def getMO (T : Tab) (a ap po i : Nat) (o : O) : Option (V × List V) := match o with
  | .inst C fs => (lk T.cl C).bind fun cx => methF cx a i (lk fs a)
  | .list _ => bif Nat.beq a ap then some (.bi .append, [.ref i]) else gd (Nat.beq a po) (some (.bi .pop, [.ref i]))
  | _ => none
noncomputable def getM (T : Tab) (v : V) (a : Nat) (σ : H) (ap po : Nat) : Option (V × List V) := match v with
  | .ref i => (at? σ i).bind (getMO T a ap po i)
  | .val C => (lk T.cl C).bind fun cx => (lk cx.cm a).map fun f => (.val f, [])
  | _ => none
noncomputable def setO (T : Tab) (a : Nat) (v : V) (o : O) : Option O := (instO o).bind fun p => (lk T.cl p.1.1).bind fun cx => gd (mem cx.own a) (gd (Nat.ble (put p.1.2 a v).length 100) (some (.inst p.1.1 (put p.1.2 a v))))
noncomputable def setA (T : Tab) (o : V) (a : Nat) (v : V) (σ : H) : Option H := (refV o).bind fun i => gd (T.mu i.1) ((at? σ i.1).bind fun x => (setO T a v x).map fun y => setAt σ i.1 y)
noncomputable def opI (op : Operator) (x y : Int) : Option Int := match op with
  | .Add => some (x + y)
  | .Sub => some (x - y)
  | .Mod => gd (!(y == 0)) (some (x.fmod y))
  | .FloorDiv => gd (decide (0 < y ∧ y < 1000)) (some (x.fdiv y))
  | .Mult => gd (decide (0 ≤ y ∧ y < 50000)) (some (x * y))
  | .Pow => gd (decide (x = 10 ∧ 0 ≤ y ∧ y ≤ 100)) (some (x ^ y.toNat))
  | _ => none
noncomputable def isAdd : Operator → Bool
  | .Add => true
  | _ => false
noncomputable def isLit (k : Int) : V → Bool
  | .int i => i == k
  | _ => false
noncomputable def binV (T : Tab) (op : Operator) (a b : V) (σ : H) : Option (V × H) := match a with
  | .int x => (intV b).bind fun y => (opI op x y.1).map fun z => (.int z, σ)
  | .ref i => gd (isAdd op) ((refV b).bind fun j => (listAt σ i).bind fun xs => (listAt σ j.1).bind fun ys => gd (Nat.ble (xs.length + ys.length) 10000) (some (.ref σ.length, σ ++ [.list (xs ++ ys)])))
  | .opq j => gd (isAdd op) (gd (isLit 1 b) ((T.inc j).map fun k => (.opq k, σ)))
  | _ => none
noncomputable def augV (T : Tab) (op : Operator) (a b : V) : Option V := gd (isAdd op) (match a with
  | .int x => (intV b).map fun y => .int (x + y.1)
  | .opq j => gd (isLit 1 b) ((T.inc j).map .opq)
  | _ => none)
noncomputable def isNo : V → Option Bool
  | .none => some true
  | .val _ => some false
  | .ref _ => some false
  | .int _ => some false
  | .bool _ => some false
  | _ => none
noncomputable def isVa (T : Tab) (q : Addr) : V → Option Bool
  | .none => some false
  | .val p => gd (Nat.beq p q) (some true)
  | .ref _ => gd (mem T.ob q) (some false)
  | .int _ => some false
  | .bool _ => some false
  | _ => none
noncomputable def isV (T : Tab) (a b : V) : Option Bool := match b with
  | .none => isNo a
  | .val q => isVa T q a
  | _ => none
noncomputable def hasV (a b : V) (σ : H) : Option Bool := (intV a).bind fun k => (refV b).bind fun i => (dictAt σ i.1).map fun es => (lkI es k.1).isSome
noncomputable def cmpI (op : CmpOp) (x y : Int) : Option Bool := match op with
  | .Eq => some (x == y)
  | .NotEq => some (x != y)
  | .Lt => some (decide (x < y))
  | .LtE => some (decide (x ≤ y))
  | .Gt => some (decide (x > y))
  | .GtE => some (decide (x ≥ y))
  | _ => none
noncomputable def str2 (xs : List V) : Option (Str × Str) := (arg2 xs).bind fun p => (strV p.1.1).bind fun a => (strV p.1.2).map fun b => (a.1, b.1)
noncomputable def eqL (xs ys : List V) : Option Bool := (str2 xs).bind fun p => (str2 ys).bind fun q => gd (PyData.strOk p.1 && PyData.strOk p.2 && PyData.strOk q.1 && PyData.strOk q.2) (some (p.1 == q.1 && p.2 == q.2))
noncomputable def neL (xs ys : List V) : Option Bool := gd ys.isEmpty (gd (Nat.ble xs.length 10000) (some (!xs.isEmpty)))
noncomputable def cmpL' (op : CmpOp) (xs ys : List V) : Option Bool := match op with
  | .Eq => eqL xs ys
  | .NotEq => neL xs ys
  | _ => none
noncomputable def isNe : CmpOp → Bool
  | .NotEq => true
  | _ => false
noncomputable def cmpR (T : Tab) (op : CmpOp) (x : Int) (b : V) : Option Bool := match b with
  | .int y => cmpI op x y
  | .opq j => T.cmp op (.int x) (.opq j)
  | _ => none
noncomputable def cmpO (T : Tab) (op : CmpOp) (a b : V) (σ : H) : Option Bool := match a with
  | .opq j => T.cmp op (.opq j) b
  | .int x => cmpR T op x b
  | .str x => (strV b).bind fun y => gd (isNe op) (some (x != y.1))
  | .ref i => (refV b).bind fun j => (listAt σ i).bind fun xs => (listAt σ j.1).bind fun ys => cmpL' op xs ys
  | _ => none
noncomputable def cmpB (T : Tab) (op : CmpOp) (a b : V) (σ : H) : Option Bool := match op with
  | .Is => isV T a b
  | .IsNot => (isV T a b).map fun x => !x
  | .In => hasV a b σ
  | .NotIn => (hasV a b σ).map fun x => !x
  | op => cmpO T op a b σ
noncomputable def cmpV (T : Tab) (op : CmpOp) (a b : V) (σ : H) : Option V := (cmpB T op a b σ).map .bool
noncomputable def seqAt (k : Int) (xs : List V) : Option V := gd (decide (0 ≤ k ∧ k < 4611686018427387904)) (at? xs k.toNat)
noncomputable def subO (k : Int) : O → Option V
  | .list xs => seqAt k xs
  | .tup xs => seqAt k xs
  | .dict es => lkI es k
  | _ => none
noncomputable def subV (T : Tab) (o i : V) (σ : H) : Option V := (intV i).bind fun k => match o with
  | .val a => (lk T.tp a).bind (seqAt k.1)
  | .ref n => (at? σ n).bind (subO k.1)
  | _ => none
noncomputable def setSO (k : Int) (v : V) : O → Option O
  | .list xs => gd (decide (0 ≤ k ∧ k < 4611686018427387904 ∧ k.toNat < xs.length)) (some (.list (setAt xs k.toNat v)))
  | .dict es => gd (Nat.ble es.length 1000) (some (.dict ((k, v) :: es)))
  | _ => none
noncomputable def setS (T : Tab) (o i v : V) (σ : H) : Option H := (refV o).bind fun n => (intV i).bind fun k => gd (T.mu n.1) ((at? σ n.1).bind fun x => (setSO k.1 v x).map fun y => setAt σ n.1 y)
noncomputable def fromV (o i : V) (σ : H) : Option (V × H) := (refV o).bind fun n => gd (isLit 1 i) ((listAt σ n.1).bind fun xs => gd (Nat.ble xs.length 10000) (some (.ref σ.length, σ ++ [.list (xs.drop 1)])))
noncomputable def seqV (T : Tab) (v : V) (σ : H) : Option (List V) := match v with
  | .ref i => listAt σ i
  | .val a => lk T.tp a
  | _ => none
noncomputable def isiO (T : Tab) (C : Addr) : O → Option Bool
  | .inst D _ => (lk T.cl D).bind fun cx => bif mem cx.mro C then some true else gd (mem cx.non C) (some false)
  | _ => none
noncomputable def isbO (T : Tab) : O → Option Bool
  | .inst D _ => (lk T.cl D).map fun _ => false
  | _ => none
noncomputable def isBo (T : Tab) (v : V) (σ : H) : Option Bool := match v with
  | .bool _ => some true
  | .int _ => some false
  | .ref i => (at? σ i).bind (isbO T)
  | _ => none
noncomputable def isiV (T : Tab) (v c : V) (σ : H) : Option Bool := match c with
  | .val C => (refV v).bind fun i => (at? σ i.1).bind (isiO T C)
  | .tyBool => isBo T v σ
  | _ => none
noncomputable def popE (xs : List V) : Option (V × List V) := gd (Nat.ble xs.length 10000) (xs.getLast?.map fun v => (v, xs.dropLast))
noncomputable def pop0 : List V → Option (V × List V)
  | v :: xs => gd (Nat.ble xs.length 9999) (some (v, xs))
  | [] => none
noncomputable def popV (T : Tab) (f : List V → Option (V × List V)) (a : V) (σ : H) : Option (V × H) := (refV a).bind fun i => gd (T.mu i.1) ((listAt σ i.1).bind fun xs => (f xs).map fun p => (p.1, setAt σ i.1 (.list p.2)))
noncomputable def repI (i : Int) (a b c : Str) : Option Str := if i = 6 then some a else if i = 7 then some b else if i = 9 then some c else none
noncomputable def rep1 : V → Option Str
  | .bool b => gd (!b) (some "[False]")
  | .int i => repI i "[6]" "[7]" "[9]"
  | _ => none
noncomputable def repV (v : V) (σ : H) : Option Str := match v with
  | .bool b => gd (!b) (some "False")
  | .int i => repI i "6" "7" "9"
  | .ref i => (listAt σ i).bind fun xs => (arg1 xs).bind fun u => rep1 u.1
  | _ => none
noncomputable def isE : O → Bool
  | .dict [] => true
  | _ => false
noncomputable def biV (T : Tab) (b : Bi) (args : List V) (σ : H) : Option (V × H) := match b with
  | .len => (arg1 args).bind fun v => (seqV T v.1 σ).bind fun xs => gd (Nat.ble xs.length 10000) (some (.int xs.length, σ))
  | .isinst => (arg2 args).bind fun p => (isiV T p.1.1 p.1.2 σ).map fun t => (.bool t, σ)
  | .append => (arg2 args).bind fun p => (refV p.1.1).bind fun i => gd (T.mu i.1) ((listAt σ i.1).bind fun xs => gd (Nat.ble xs.length 10000) (some (.none, setAt σ i.1 (.list (xs ++ [p.1.2])))))
  | .pop => match args with
    | [a] => popV T popE a σ
    | [a, z] => gd (isLit 0 z) (popV T pop0 a σ)
    | _ => none
  | .absB => (arg1 args).bind fun v => (intV v.1).map fun i => (.int (if i.1 < 0 then -i.1 else i.1), σ)
  | .reprB => (arg1 args).bind fun v => (repV v.1 σ).map fun t => (.str t, σ)
  | .sortedB => (arg1 args).bind fun v => (refV v.1).bind fun i => (at? σ i.1).bind fun o => gd (isE o) (some (.ref σ.length, σ ++ [.list []]))
noncomputable def evL (f : ME → H → Option (V × H)) : List ME → H → Option (List V × H)
  | [], σ => some ([], σ)
  | e :: es, σ => (f e σ).bind fun p => (evL f es p.2).map fun q => (p.1 :: q.1, q.2)
noncomputable def putAll (l : Loc) : List Nat → List V → Option Loc
  | [], [] => some l
  | i :: is, v :: vs => putAll ((i, v) :: l) is vs
  | _, _ => none
noncomputable def tupOf (T : Tab) (σ : H) : V → Option (List V)
  | .ref i => tupAt σ i
  | .val a => lk T.tp a
  | _ => none
noncomputable def tgtPut (σ : H) (l : Loc) (is : List Nat) (v : V) : Option Loc := match is with
  | [i] => some ((i, v) :: l)
  | is => (refV v).bind fun q => (tupAt σ q.1).bind fun ys => putAll l is ys
structure Cfg where
  T : Tab
  nmApp : Nat
  nmPop : Nat
noncomputable abbrev EvR := (Loc → ME → H → Option (V × H)) × (Loc → ME → H → Option (Bool × H))
noncomputable def tr1 (p : V × H) : Option (Bool × H) := (truth p.1).map fun t => (t.1, p.2)
noncomputable def evE1 (c : Cfg) (cf : CF) (r : EvR) (l : Loc) (e : ME) (σ : H) : Option (V × H) := match e with
  | .nm i => (lk l i).map fun v => (v, σ)
  | .cst v => gd (isCst v) (some (v, σ))
  | .attr e a => (r.1 l e σ).bind fun p => (getA c.T p.1 a p.2).map fun u => (u, p.2)
  | .call f es => (r.1 l f σ).bind fun p => (evL (r.1 l) es p.2).bind fun q => cf p.1 q.1 q.2
  | .meth o a es => (r.1 l o σ).bind fun p => (getM c.T p.1 a p.2 c.nmApp c.nmPop).bind fun f => (evL (r.1 l) es p.2).bind fun q => cf f.1 (f.2 ++ q.1) q.2
  | .bin op a b => (r.1 l a σ).bind fun p => (r.1 l b p.2).bind fun q => binV c.T op p.1 q.1 q.2
  | .cmp op a b => (r.1 l a σ).bind fun p => (r.1 l b p.2).bind fun q => (cmpV c.T op p.1 q.1 q.2).map fun v => (v, q.2)
  | .and a b => (r.1 l a σ).bind fun p => (truth p.1).bind fun t => bif t.1 then r.1 l b p.2 else some p
  | .or a b => (r.1 l a σ).bind fun p => (truth p.1).bind fun t => bif t.1 then some p else r.1 l b p.2
  | .not a => (r.1 l a σ).bind fun p => (truth p.1).map fun t => (.bool (!t.1), p.2)
  | .neg a => (r.1 l a σ).bind fun p => (intV p.1).map fun i => (.int (-i.1), p.2)
  | .ite t a b => (r.2 l t σ).bind fun p => r.1 l (bif p.1 then a else b) p.2
  | .list es => (evL (r.1 l) es σ).bind fun p => gd (Nat.ble p.1.length 1000) (some (.ref p.2.length, p.2 ++ [.list p.1]))
  | .tup es => (evL (r.1 l) es σ).bind fun p => gd (Nat.ble p.1.length 1000) (some (.ref p.2.length, p.2 ++ [.tup p.1]))
  | .dict0 => some (.ref σ.length, σ ++ [.dict []])
  | .sub o i => (r.1 l o σ).bind fun p => (r.1 l i p.2).bind fun q => (subV c.T p.1 q.1 q.2).map fun v => (v, q.2)
  | .from o i => (r.1 l o σ).bind fun p => (r.1 l i p.2).bind fun q => fromV p.1 q.1 q.2
  | _ => none
noncomputable def evT1 (c : Cfg) (cf : CF) (r : EvR) (l : Loc) (e : ME) (σ : H) : Option (Bool × H) := match e with
  | .and a b => (r.2 l a σ).bind fun p => bif p.1 then r.2 l b p.2 else some p
  | .or a b => (r.2 l a σ).bind fun p => bif p.1 then some p else r.2 l b p.2
  | .not a => (r.2 l a σ).map fun p => (!p.1, p.2)
  | .cmp op a b => (r.1 l a σ).bind fun p => (r.1 l b p.2).bind fun q => (cmpB c.T op p.1 q.1 q.2).map fun t => (t, q.2)
  | .chain o1 o2 a b d => (r.1 l a σ).bind fun p => (r.1 l b p.2).bind fun q => (cmpB c.T o1 p.1 q.1 q.2).bind fun t => bif t then (r.1 l d q.2).bind fun z => (cmpB c.T o2 q.1 z.1 z.2).map fun v => (v, z.2) else some (false, q.2)
  | .ite .. => none
  | e => (r.1 l e σ).bind tr1
noncomputable def ev (c : Cfg) (cf : CF) : Nat → EvR
  | 0 => (fun _ _ _ => none, fun _ _ _ => none)
  | n + 1 => (evE1 c cf (ev c cf n), evT1 c cf (ev c cf n))
noncomputable def evE (c : Cfg) (cf : CF) (n : Nat) (l : Loc) (e : ME) (σ : H) : Option (V × H) := (ev c cf n).1 l e σ
noncomputable def evT (c : Cfg) (cf : CF) (n : Nat) (l : Loc) (e : ME) (σ : H) : Option (Bool × H) := (ev c cf n).2 l e σ
noncomputable abbrev R3 := Option (Fl × Loc × H)
noncomputable def seqR (k : Loc → H → R3) (x : R3) : R3 := x.bind fun p => match p.1 with
  | .next => k p.2.1 p.2.2
  | _ => some p
noncomputable def loopR (k : Loc → H → R3) (x : R3) : R3 := x.bind fun p => match p.1 with
  | .next => k p.2.1 p.2.2
  | .cont => k p.2.1 p.2.2
  | .brk => some (.next, p.2)
  | .ret v => some (.ret v, p.2)
structure ExR where
  S : Loc → MS → H → R3
  B : Loc → List MS → H → R3
  R : Loc → Nat → Nat → Nat → List MS → H → R3
  I : Loc → List Nat → Nat → Nat → List MS → H → R3
noncomputable def dropV : V → Bool
  | .none => true
  | .int _ => true
  | _ => false
noncomputable def exS1 (c : Cfg) (er : EvR) (r : ExR) (l : Loc) (s : MS) (σ : H) : R3 := match s with
  | .asgN i e => (er.1 l e σ).map fun p => (.next, (i, p.1) :: l, p.2)
  | .asgA o a e => (er.1 l e σ).bind fun p => (er.1 l o p.2).bind fun q => (setA c.T q.1 a p.1 q.2).map fun σ3 => (.next, l, σ3)
  | .asgS o i e => (er.1 l e σ).bind fun p => (er.1 l o p.2).bind fun q => (er.1 l i q.2).bind fun z => (setS c.T q.1 z.1 p.1 z.2).map fun σ3 => (.next, l, σ3)
  | .asgT rev is e => (er.1 l e σ).bind fun p => (tupOf c.T p.2 p.1).bind fun xs => (bif rev then putAll l is.reverse xs.reverse else putAll l is xs).map fun l1 => (.next, l1, p.2)
  | .augA o a op e => (er.1 l o σ).bind fun p => (getA c.T p.1 a p.2).bind fun x => (er.1 l e p.2).bind fun q => (augV c.T op x q.1).bind fun z => (setA c.T p.1 a z q.2).map fun σ3 => (.next, l, σ3)
  | .ifS t a b => (er.2 l t σ).bind fun p => r.B l (bif p.1 then a else b) p.2
  | .whileS t b => (er.2 l t σ).bind fun p => bif p.1 then loopR (fun l1 σ1 => r.S l1 (.whileS t b) σ1) (r.B l b p.2) else some (.next, l, p.2)
  | .forR i es b => (evL (er.1 l) es σ).bind fun p => (arg1 p.1).bind fun v => (intV v.1).bind fun m => gd (decide (0 ≤ m.1 ∧ m.1 < 1000)) (r.R l i 0 m.1.toNat b p.2)
  | .forL is e b => (er.1 l e σ).bind fun p => (refV p.1).bind fun j => (listAt p.2 j.1).bind fun _ => r.I l is j.1 0 b p.2
  | .ret e => (er.1 l e σ).map fun p => (.ret p.1, l, p.2)
  | .expr e => (er.1 l e σ).bind fun p => gd (dropV p.1) (some (.next, l, p.2))
  | .stop => none
noncomputable def exB1 (r : ExR) (l : Loc) (b : List MS) (σ : H) : R3 := match b with
  | [] => some (.next, l, σ)
  | s :: t => seqR (fun l1 σ1 => r.B l1 t σ1) (r.S l s σ)
noncomputable def exR1 (r : ExR) (l : Loc) (i k m : Nat) (b : List MS) (σ : H) : R3 := match m with
  | 0 => some (.next, l, σ)
  | m + 1 => loopR (fun l1 σ1 => r.R l1 i (k + 1) m b σ1) (r.B ((i, .int (k : Int)) :: l) b σ)
noncomputable def exI1 (r : ExR) (l : Loc) (is : List Nat) (j k : Nat) (b : List MS) (σ : H) : R3 := (listAt σ j).bind fun xs => match at? xs k with
  | some v => (tgtPut σ l is v).bind fun l0 => loopR (fun l1 σ1 => r.I l1 is j (k + 1) b σ1) (r.B l0 b σ)
  | none => gd (Nat.ble xs.length 10000) (some (.next, l, σ))
noncomputable def ex (c : Cfg) (cf : CF) : Nat → ExR
  | 0 => ⟨fun _ _ _ => none, fun _ _ _ => none, fun _ _ _ _ _ _ => none, fun _ _ _ _ _ _ => none⟩
  | n + 1 => ⟨exS1 c (ev c cf n) (ex c cf n), exB1 (ex c cf n), exR1 (ex c cf n), exI1 (ex c cf n)⟩
noncomputable def exS (c : Cfg) (cf : CF) (n : Nat) (l : Loc) (s : MS) (σ : H) : R3 := (ex c cf n).S l s σ
noncomputable def exB (c : Cfg) (cf : CF) (n : Nat) (l : Loc) (b : List MS) (σ : H) : R3 := (ex c cf n).B l b σ
noncomputable def exR (c : Cfg) (cf : CF) (n : Nat) (l : Loc) (i k m : Nat) (b : List MS) (σ : H) : R3 := (ex c cf n).R l i k m b σ
noncomputable def exI (c : Cfg) (cf : CF) (n : Nat) (l : Loc) (is : List Nat) (j k : Nat) (b : List MS) (σ : H) : R3 := (ex c cf n).I l is j k b σ
noncomputable def FU : Nat := 100000
noncomputable def bodyR (x : R3) : Option (V × H) := x.bind fun p => match p.1 with
  | .ret v => some (v, p.2.2)
  | .next => some (.none, p.2.2)
  | _ => none
noncomputable def runF (c : Cfg) (cf : CF) (fx : FX) (args : List V) (σ : H) : Option (V × H) := gd (Nat.beq fx.params.length args.length) (bodyR (exB c cf FU (fx.params.zip args).reverse fx.body σ))
noncomputable def initR (r : V) (x : Option (V × H)) : Option (V × H) := x.bind fun p => match p.1 with
  | .none => some (r, p.2)
  | _ => none
noncomputable def newV (c : Cfg) (cf : CF) (a : Addr) (i : Option Addr) (args : List V) (σ : H) : Option (V × H) := match i with
  | some g => (lk c.T.fn g).bind fun fx => initR (.ref σ.length) (runF c cf fx (.ref σ.length :: args) (σ ++ [.inst a []]))
  | none => gd args.isEmpty (some (.ref σ.length, σ ++ [.inst a []]))
noncomputable def callS (c : Cfg) (cf : CF) (f : V) (args : List V) (σ : H) : Option (V × H) := match f with
  | .val a => match lk c.T.fn a with
    | some fx => runF c cf fx args σ
    | none => (lk c.T.cl a).bind fun cx => newV c cf a cx.init args σ
  | .bi b => biV c.T b args σ
  | .tyList => (arg1 args).bind fun v => (refV v.1).bind fun i => (listAt σ i.1).bind fun xs => gd (Nat.ble xs.length 1000) (some (.ref σ.length, σ ++ [.list xs]))
  | _ => none
noncomputable def callN (c : Cfg) : Nat → CF
  | 0 => fun _ _ _ => none
  | d + 1 => callS c (callN c d)
theorem gdE {α : Type} {b : Bool} {x : Option α} {y : α} {P : Prop} (h : gd b x = some y) (k : b = true → x = some y → P) : P := by
  cases b with
  | true => exact k rfl h
  | false => cases h
theorem bdE {α β : Type} {x : Option α} {f : α → Option β} {y : β} {P : Prop} (h : x.bind f = some y) (k : ∀ a, x = some a → f a = some y → P) : P := by
  cases x with
  | none => cases h
  | some a => exact k a rfl h
theorem mpE {α β : Type} {x : Option α} {f : α → β} {y : β} {P : Prop} (h : x.map f = some y) (k : ∀ a, x = some a → f a = y → P) : P := by
  cases x with
  | none => cases h
  | some a => exact k a rfl (Option.some.inj h)
theorem bsE {α β : Type} {p : α → Prop} {x : Option (Subtype p)} {f : Subtype p → Option β} {y : β} {P : Prop} (h : x.bind f = some y) (k : ∀ a (e : p a), f ⟨a, e⟩ = some y → P) : P := by
  cases x with
  | none => cases h
  | some a => exact k a.1 a.2 h
theorem msE {α β : Type} {p : α → Prop} {x : Option (Subtype p)} {f : Subtype p → β} {y : β} {P : Prop} (h : x.map f = some y) (k : ∀ a (e : p a), f ⟨a, e⟩ = y → P) : P := by
  cases x with
  | none => cases h
  | some a => exact k a.1 a.2 (Option.some.inj h)
theorem obE {α : Type} {x : Option α} {f : α → Bool} {P : Prop} (h : ob x f = true) (k : ∀ a, x = some a → f a = true → P) : P := by
  cases x with
  | none => cases h
  | some a => exact k a rfl h
theorem osE {α : Type} {p : α → Prop} {x : Option (Subtype p)} {f : Subtype p → Bool} {P : Prop} (h : ob x f = true) (k : ∀ a (e : p a), f ⟨a, e⟩ = true → P) : P := by
  cases x with
  | none => cases h
  | some a => exact k a.1 a.2 h
theorem anE {a b : Bool} {P : Prop} (h : (a && b) = true) (k : a = true → b = true → P) : P := by
  cases a with
  | true => exact k rfl h
  | false => cases h
theorem eq_ok {α : Type} [BEq α] [LawfulBEq α] {a b : α} (h : (a == b) = true) : a = b := beq_iff_eq.mp h
theorem all_ok {α : Type} {l : List α} {f : α → Bool} (h : l.all f = true) : ∀ a ∈ l, f a = true := List.all_eq_true.mp h
theorem not_ok {b : Bool} (h : (!b) = true) : b = false := by cases b with | false => rfl | true => cases h
theorem listAt_ok {σ : H} {i : Nat} {xs : List V} (h : listAt σ i = some xs) : at? σ i = some (.list xs) :=
  bdE h fun _ h1 h2 => msE h2 fun _ h3 h4 => by rw [h1, h3, ← h4]
theorem tupAt_ok {σ : H} {i : Nat} {xs : List V} (h : tupAt σ i = some xs) : at? σ i = some (.tup xs) :=
  bdE h fun _ h1 h2 => msE h2 fun _ h3 h4 => by rw [h1, h3, ← h4]
theorem dictAt_ok {σ : H} {i : Nat} {xs : List (Int × V)} (h : dictAt σ i = some xs) : at? σ i = some (.dict xs) :=
  bdE h fun _ h1 h2 => msE h2 fun _ h3 h4 => by rw [h1, h3, ← h4]
theorem nbeq {a b : Nat} : Nat.beq a b = true ↔ a = b := by rw [Nat.beq_eq]
theorem cdE {α : Type} {b : Bool} {x y z : α} {P : Prop} (h : (bif b then x else y) = z) (k1 : b = true → x = z → P) (k2 : b = false → y = z → P) : P := by
  cases b with
  | true => exact k1 rfl h
  | false => exact k2 rfl h
noncomputable def nextF : Fl → Bool
  | .next => true
  | _ => false
theorem seqE {k : Loc → H → R3} {x : R3} {y : Fl × Loc × H} {P : Prop} (h : seqR k x = some y) (k1 : ∀ l σ, x = some (.next, l, σ) → k l σ = some y → P) (k2 : x = some y → nextF y.1 = false → P) : P :=
  bdE h fun p h1 h2 => by
    obtain ⟨f, l, σ⟩ := p
    cases f with
    | next => exact k1 l σ h1 h2
    | _ => cases h2; exact k2 h1 rfl
noncomputable def onF : Fl → Bool
  | .next => true
  | .cont => true
  | _ => false
noncomputable def outF : Fl → Fl
  | .ret v => .ret v
  | _ => .next
theorem loopE {k : Loc → H → R3} {x : R3} {y : Fl × Loc × H} {P : Prop} (h : loopR k x = some y) (k1 : ∀ f l σ, x = some (f, l, σ) → onF f = true → k l σ = some y → P) (k2 : ∀ f l σ, x = some (f, l, σ) → onF f = false → y = (outF f, l, σ) → P) : P :=
  bdE h fun p h1 h2 => by
    obtain ⟨f, l, σ⟩ := p
    cases f with
    | next => exact k1 _ l σ h1 rfl h2
    | cont => exact k1 _ l σ h1 rfl h2
    | brk => exact k2 _ l σ h1 rfl (Option.some.inj h2).symm
    | ret v => exact k2 _ l σ h1 rfl (Option.some.inj h2).symm
noncomputable abbrev RA := Addr × Option Addr
noncomputable def adr (p : RA) : List Addr := match p.2 with | none => [p.1] | some d => [p.1, d]
noncomputable def adrs : List RA → List Addr
  | [] => []
  | p :: r => adr p ++ adrs r
noncomputable def biId : Bi → String
  | .len => "len" | .isinst => "isinstance" | .absB => "abs" | .sortedB => "sorted" | .reprB => "repr" | .append => "list.append" | .pop => "list.pop"
inductive VR (ρ : List RA) : V → Value → Prop where
  | none : VR ρ .none .none
  | bool (b : Bool) : VR ρ (.bool b) (.bool b)
  | int (i : Int) (t : Tok) : VR ρ (.int i) (.int i t)
  | str (x : Str) (t : Tok) : VR ρ (.str x) (.str x t)
  | ref {i : Nat} {p : RA} : at? ρ i = some p → VR ρ (.ref i) (.ref p.1)
  | val (a : Addr) : VR ρ (.val a) (.ref a)
  | bi (b : Bi) : VR ρ (.bi b) (.builtin (biId b))
  | tyBool : VR ρ .tyBool (.type "bool")
  | tyList : VR ρ .tyList (.type "list")
inductive VsR (ρ : List RA) : List V → List Value → Prop where
  | nil : VsR ρ [] []
  | cons {v : V} {x : Value} {vs : List V} {xs : List Value} : VR ρ v x → VsR ρ vs xs → VsR ρ (v :: vs) (x :: xs)
noncomputable def nmOf (NM : List Str) (i : Nat) : Str := (at? NM i).getD Str.empty
noncomputable def nmOk (NM : List Str) : Prop := ∀ i j x, at? NM i = some x → at? NM j = some x → i = j
inductive FsR (NM : List Str) (ρ : List RA) : List (Nat × V) → List DictEntry → Prop where
  | nil : FsR NM ρ [] []
  | cons {i : Nat} {x : Str} {v : V} {hs : Int} {t : Tok} {u : Value} {fs : List (Nat × V)} {es : List DictEntry} :
      at? NM i = some x → VR ρ v u → FsR NM ρ fs es → FsR NM ρ ((i, v) :: fs) (⟨hs, .str x t, u⟩ :: es)
noncomputable def DR (ρ : List RA) (es : List (Int × V)) (f : Int → Option Value) : Prop := ∀ k, match lkI es k with
  | some v => ∃ u, f k = some u ∧ VR ρ v u
  | none => f k = none
noncomputable def OInt (o : Obj) (f : Int → Option Value) (n : Nat) : Prop := o.cls = .type "dict" ∧ ∃ es ep, o.data = .dict es ep ∧ IntKeys es ∧ es.size ≤ n ∧ ∀ k, findBy Value.isInt es k = f k
noncomputable abbrev Led := List (Addr × Obj)
noncomputable def ObjR (NM : List Str) (news : Led) (ρ : List RA) (p : RA) : O → Prop
  | .inst C fs => ∃ d es n, p.2 = some d ∧ (p.1, instObj C d) ∈ news ∧ (d, dictOf es n) ∈ news ∧ FsR NM ρ fs es
  | .list xs => ∃ vs n, p.2 = none ∧ (p.1, listOf vs.toArray n) ∈ news ∧ VsR ρ xs vs
  | .tup xs => ∃ vs, p.2 = none ∧ (p.1, ({ cls := .type "tuple", data := .seq vs.toArray } : Obj)) ∈ news ∧ VsR ρ xs vs
  | .dict es => ∃ o f, p.2 = none ∧ (p.1, o) ∈ news ∧ OInt o f es.length ∧ DR ρ es f ∧ (p.1 == sysModules) = false ∧ (es = [] → o = { cls := .type "dict", data := .dict #[] })
structure Pt (NM : List Str) (ρ : List RA) (σ : H) (news : Led) : Prop where
  len : ρ.length = σ.length
  obj : ∀ i o, at? σ i = some o → ∃ p, at? ρ i = some p ∧ ObjR NM news ρ p o
  nd : (adrs ρ).Nodup
structure Dy (NM : List Str) (h₀ : Heap) (L : Addr) (ρ : List RA) (σ : H) (m : Str → Option Value) (news : Led) (h : Heap) : Prop where
  F : Fr h₀ L h m
  N : News h₀ L h news
  nd : (news.map (·.1)).Nodup
  P : Pt NM ρ σ news
noncomputable def NsO (o : Obj) (m : Str → Option Value) : Prop := ∃ es ep, o.data = .dict es ep ∧ StrKeys es ∧ ∀ name, nsFind es name = m name
noncomputable def Rd (env : Env) (L : Addr) (ρ : List RA) (news : Led) (m : Str → Option Value) (x : Str) (u : Value) : Prop :=
  (env.scope.names.lookup x = some .local ∧ env.locals = L ∧ m x = some u) ∨
  (env.scope.names.lookup x = some .cell ∧ ∃ c o, env.cells.lookup x = some c ∧ (c, o) ∈ news ∧ c ∉ adrs ρ ∧ o.data = .cell (some u)) ∨
  (env.scope.names.lookup x = some .local ∧ ∃ o m₂, (env.locals, o) ∈ news ∧ env.locals ∉ adrs ρ ∧ NsO o m₂ ∧ m₂ x = some u)
noncomputable def LocR (NM : List Str) (env : Env) (L : Addr) (ρ : List RA) (news : Led) (l : Loc) (m : Str → Option Value) : Prop := ∀ i v, lk l i = some v → ∀ x, at? NM i = some x → ∃ u, Rd env L ρ news m x u ∧ VR ρ v u
structure Le (ρ ρ' : List RA) (news news' : Led) : Prop where
  pre : ∃ τ, ρ' = ρ ++ τ
  keep : ∀ p ∈ news, p.1 ∉ adrs ρ → p ∈ news' ∧ p.1 ∉ adrs ρ'
theorem at_app {α : Type} : ∀ {l l' : List α} {i : Nat} {x : α}, at? l i = some x → at? (l ++ l') i = some x
  | _ :: _, _, 0, _, h => h
  | _ :: l, l', i + 1, x, h => by exact at_app (l := l) h
theorem at_lt {α : Type} : ∀ {l : List α} {i : Nat} {x : α}, at? l i = some x → i < l.length
  | _ :: _, 0, _, _ => Nat.succ_pos _
  | _ :: l, i + 1, x, h => Nat.succ_lt_succ (at_lt (l := l) h)
theorem at_some {α : Type} : ∀ {l : List α} {i : Nat}, i < l.length → ∃ x, at? l i = some x
  | x :: _, 0, _ => ⟨x, rfl⟩
  | _ :: l, i + 1, h => at_some (l := l) (Nat.lt_of_succ_lt_succ h)
theorem at_end {α : Type} : ∀ (l : List α) (x : α), at? (l ++ [x]) l.length = some x
  | [], _ => rfl
  | _ :: l, x => at_end l x
theorem at_getElem {α : Type} : ∀ (l : List α) (i : Nat), at? l i = l[i]?
  | [], _ => by simp [at?]
  | _ :: _, 0 => by simp [at?]
  | _ :: l, i + 1 => by simp [at?, at_getElem l i]
theorem at_app_cases {α : Type} : ∀ {l : List α} {y : α} {i : Nat} {x : α}, at? (l ++ [y]) i = some x → at? l i = some x ∨ (i = l.length ∧ x = y)
  | [], y, 0, x, h => .inr ⟨rfl, (Option.some.inj h).symm⟩
  | [], y, i + 1, x, h => by simp [at?] at h
  | a :: l, y, 0, x, h => .inl h
  | a :: l, y, i + 1, x, h => (at_app_cases (l := l) h).imp id fun ⟨e, q⟩ => ⟨by rw [e]; rfl, q⟩
theorem at_setAt {α : Type} : ∀ (l : List α) (i j : Nat) (y : α), at? (setAt l i y) j = if i = j then (at? l j).map fun _ => y else at? l j
  | [], i, j, y => by simp [setAt, at?]
  | x :: l, 0, 0, y => by simp [setAt, at?]
  | x :: l, 0, j + 1, y => by simp [setAt, at?]
  | x :: l, i + 1, 0, y => by simp [setAt, at?]
  | x :: l, i + 1, j + 1, y => by simp [setAt, at?, at_setAt l i j y]
theorem setAt_length {α : Type} : ∀ (l : List α) (i : Nat) (y : α), (setAt l i y).length = l.length
  | [], _, _ => rfl
  | _ :: _, 0, _ => rfl
  | _ :: l, i + 1, y => congrArg Nat.succ (setAt_length l i y)
theorem adrs_app : ∀ (a b : List RA), adrs (a ++ b) = adrs a ++ adrs b
  | [], _ => rfl
  | p :: a, b => by rw [List.cons_append, adrs, adrs, adrs_app a b, List.append_assoc]
theorem adr_mem : ∀ {ρ : List RA} {i : Nat} {p : RA}, at? ρ i = some p → ∀ a ∈ adr p, a ∈ adrs ρ
  | _ :: _, 0, _, h, a, ha => by cases h; exact List.mem_append_left _ ha
  | _ :: ρ, i + 1, p, h, a, ha => List.mem_append_right _ (adr_mem (ρ := ρ) h a ha)
theorem adr_apart : ∀ {ρ : List RA} {i j : Nat} {p q : RA}, (adrs ρ).Nodup → at? ρ i = some p → at? ρ j = some q → i ≠ j → ∀ a ∈ adr p, a ∉ adr q
  | p0 :: ρ, 0, 0, p, q, nd, hi, hj, hne, a, ha => absurd rfl hne
  | p0 :: ρ, 0, j + 1, p, q, nd, hi, hj, hne, a, ha => by
    cases hi
    intro hq
    have := (List.nodup_append.mp nd).2.2 a ha a (adr_mem (ρ := ρ) hj a hq)
    exact this rfl
  | p0 :: ρ, i + 1, 0, p, q, nd, hi, hj, hne, a, ha => by
    cases hj
    intro hq
    have := (List.nodup_append.mp nd).2.2 a hq a (adr_mem (ρ := ρ) hi a ha)
    exact this rfl
  | p0 :: ρ, i + 1, j + 1, p, q, nd, hi, hj, hne, a, ha => adr_apart (ρ := ρ) (List.nodup_append.mp nd).2.1 hi hj (fun e => hne (congrArg _ e)) a ha
theorem fst_adr (p : RA) : p.1 ∈ adr p := by unfold adr; split <;> simp
theorem snd_adr {p : RA} {d : Addr} (h : p.2 = some d) : d ∈ adr p := by unfold adr; rw [h]; simp
theorem VR.mono {ρ : List RA} {v : V} {x : Value} (τ : List RA) (h : VR ρ v x) : VR (ρ ++ τ) v x := by
  cases h with
  | ref h => exact .ref (at_app h)
  | none => exact .none
  | bool b => exact .bool b
  | int i t => exact .int i t
  | str x t => exact .str x t
  | val a => exact .val a
  | bi b => exact .bi b
  | tyBool => exact .tyBool
  | tyList => exact .tyList
theorem VsR.mono {ρ : List RA} {vs : List V} {xs : List Value} (τ : List RA) (h : VsR ρ vs xs) : VsR (ρ ++ τ) vs xs := by
  induction h with
  | nil => exact .nil
  | cons a _ ih => exact .cons (a.mono τ) ih
theorem FsR.mono {NM : List Str} {ρ : List RA} {fs : List (Nat × V)} {es : List DictEntry} (τ : List RA) (h : FsR NM ρ fs es) : FsR NM (ρ ++ τ) fs es := by
  induction h with
  | nil => exact .nil
  | cons a b _ ih => exact .cons a (b.mono τ) ih
theorem DR.mono {ρ : List RA} {es : List (Int × V)} {f : Int → Option Value} (τ : List RA) (h : DR ρ es f) : DR (ρ ++ τ) es f := fun k => by
  have := h k
  cases e : lkI es k with
  | none => rw [e] at this; exact this
  | some v => rw [e] at this; obtain ⟨u, a, b⟩ := this; exact ⟨u, a, b.mono τ⟩
theorem ObjR.mono {NM : List Str} {news news' : Led} {ρ : List RA} {p : RA} {o : O} (τ : List RA) (h : ObjR NM news ρ p o) (k : ∀ q ∈ news, q.1 ∈ adr p → q ∈ news') : ObjR NM news' (ρ ++ τ) p o := by
  cases o with
  | inst C fs => obtain ⟨d, es, n, e, a, b, c⟩ := h; exact ⟨d, es, n, e, k _ a (fst_adr p), k _ b (snd_adr e), c.mono τ⟩
  | list xs => obtain ⟨vs, n, e, a, b⟩ := h; exact ⟨vs, n, e, k _ a (fst_adr p), b.mono τ⟩
  | tup xs => obtain ⟨vs, e, a, b⟩ := h; exact ⟨vs, e, k _ a (fst_adr p), b.mono τ⟩
  | dict es => obtain ⟨o, f, e, a, b, c, d⟩ := h; exact ⟨o, f, e, k _ a (fst_adr p), b, c.mono τ, d⟩
theorem VsR.length {ρ : List RA} {vs : List V} {xs : List Value} (h : VsR ρ vs xs) : xs.length = vs.length := by
  induction h with
  | nil => rfl
  | cons _ _ ih => exact congrArg Nat.succ ih
theorem VsR.at {ρ : List RA} {vs : List V} {xs : List Value} (h : VsR ρ vs xs) : ∀ {i : Nat} {v : V}, at? vs i = some v → ∃ x, xs[i]? = some x ∧ VR ρ v x := by
  induction h with
  | nil => intro i v e; cases e
  | cons a _ ih =>
    intro i v e
    cases i with
    | zero => cases e; exact ⟨_, rfl, a⟩
    | succ i => exact ih e
theorem VsR.at_none {ρ : List RA} {vs : List V} {xs : List Value} (h : VsR ρ vs xs) : ∀ {i : Nat}, at? vs i = none → xs[i]? = none := by
  induction h with
  | nil => intro i e; rfl
  | cons a _ ih =>
    intro i e
    cases i with
    | zero => cases e
    | succ i => exact ih e
theorem VsR.app {ρ : List RA} {a b : List V} {x y : List Value} (h : VsR ρ a x) (k : VsR ρ b y) : VsR ρ (a ++ b) (x ++ y) := by
  induction h with
  | nil => exact k
  | cons q _ ih => exact .cons q ih
theorem VsR.setAt {ρ : List RA} {vs : List V} {xs : List Value} (h : VsR ρ vs xs) : ∀ {i : Nat} {v : V} {x : Value}, VR ρ v x → VsR ρ (MP.setAt vs i v) (xs.set i x) := by
  induction h with
  | nil => intro i v x q; exact .nil
  | cons a b ih =>
    intro i v x q
    cases i with
    | zero => exact .cons q b
    | succ i => exact .cons a (ih q)
theorem Le.refl {ρ : List RA} {news : Led} : Le ρ ρ news news := ⟨⟨[], (List.append_nil _).symm⟩, fun p hp hn => ⟨hp, hn⟩⟩
theorem Le.trans {ρ ρ' ρ'' : List RA} {news news' news'' : Led} (a : Le ρ ρ' news news') (b : Le ρ' ρ'' news' news'') : Le ρ ρ'' news news'' := by
  obtain ⟨τ, rfl⟩ := a.pre
  obtain ⟨τ', rfl⟩ := b.pre
  exact ⟨⟨τ ++ τ', by rw [List.append_assoc]⟩, fun p hp hn => let ⟨h1, h2⟩ := a.keep p hp hn; b.keep p h1 h2⟩
theorem Le.vr {ρ ρ' : List RA} {news news' : Led} (a : Le ρ ρ' news news') {v : V} {x : Value} (h : VR ρ v x) : VR ρ' v x := by obtain ⟨τ, rfl⟩ := a.pre; exact h.mono τ
theorem Le.vsr {ρ ρ' : List RA} {news news' : Led} (a : Le ρ ρ' news news') {v : List V} {x : List Value} (h : VsR ρ v x) : VsR ρ' v x := by obtain ⟨τ, rfl⟩ := a.pre; exact h.mono τ
theorem Le.rd {env : Env} {L : Addr} {ρ ρ' : List RA} {news news' : Led} (a : Le ρ ρ' news news') {m : Str → Option Value} {x : Str} {u : Value} (h : Rd env L ρ news m x u) : Rd env L ρ' news' m x u := by
  rcases h with h | ⟨h1, c, o, h2, h3, h4, h5⟩ | ⟨h1, o, m₂, h2, h3, h4, h5⟩
  · exact .inl h
  · obtain ⟨k1, k2⟩ := a.keep _ h3 h4
    exact .inr (.inl ⟨h1, c, o, h2, k1, k2, h5⟩)
  · obtain ⟨k1, k2⟩ := a.keep _ h2 h3
    exact .inr (.inr ⟨h1, o, m₂, k1, k2, h4, h5⟩)
theorem Le.loc {NM : List Str} {env : Env} {L : Addr} {ρ ρ' : List RA} {news news' : Led} (a : Le ρ ρ' news news') {l : Loc} {m : Str → Option Value} (h : LocR NM env L ρ news l m) : LocR NM env L ρ' news' l m := fun i v e x hx =>
  let ⟨u, h1, h2⟩ := h i v e x hx; ⟨u, a.rd h1, a.vr h2⟩
theorem lt_of_news {h₀ h : Heap} {L : Addr} {news : Led} (N : News h₀ L h news) {a : Addr} (ha : a ∈ news.map (·.1)) : a < h.objs.size := by
  obtain ⟨p, hp, rfl⟩ := List.mem_map.mp ha
  exact Heap.lt_size (N p hp).1
theorem Pt.adr_led {NM : List Str} {ρ : List RA} {σ : H} {news : Led} (P : Pt NM ρ σ news) : ∀ a ∈ adrs ρ, a ∈ news.map (·.1) := by
  have key : ∀ i p, at? ρ i = some p → ∀ a ∈ adr p, a ∈ news.map (·.1) := by
    intro i p hp a ha
    obtain ⟨o, ho⟩ := at_some (l := σ) (i := i) (by rw [← P.len]; exact at_lt hp)
    obtain ⟨q, hq, R⟩ := P.obj i o ho
    rw [hp] at hq
    cases hq
    cases o with
    | inst C fs =>
      obtain ⟨d, es, n, e, x, y, _⟩ := R
      unfold adr at ha
      rw [e] at ha
      simp only [List.mem_cons, List.not_mem_nil, or_false] at ha
      rcases ha with rfl | rfl
      · exact List.mem_map_of_mem x
      · exact List.mem_map_of_mem y
    | list xs => obtain ⟨vs, n, e, x, _⟩ := R; unfold adr at ha; rw [e] at ha; rw [List.mem_singleton.mp ha]; exact List.mem_map_of_mem x
    | tup xs => obtain ⟨vs, e, x, _⟩ := R; unfold adr at ha; rw [e] at ha; rw [List.mem_singleton.mp ha]; exact List.mem_map_of_mem x
    | dict es => obtain ⟨o, f, e, x, _⟩ := R; unfold adr at ha; rw [e] at ha; rw [List.mem_singleton.mp ha]; exact List.mem_map_of_mem x
  have all : ∀ (r : List RA), (∀ p ∈ r, ∀ a ∈ adr p, a ∈ news.map (·.1)) → ∀ a ∈ adrs r, a ∈ news.map (·.1) := by
    intro r
    induction r with
    | nil => intro _ a ha; cases ha
    | cons p r ih =>
      intro h a ha
      rcases List.mem_append.mp ha with ha | ha
      · exact h p (.head _) a ha
      · exact ih (fun q hq => h q (.tail _ hq)) a ha
  refine all ρ fun p hp => ?_
  obtain ⟨i, hi, e⟩ := List.getElem_of_mem hp
  exact key i p (by rw [at_getElem, List.getElem?_eq_getElem hi, e])
theorem Dy.alloc {NM : List Str} {h₀ : Heap} {L : Addr} {ρ : List RA} {σ : H} {m : Str → Option Value} {news : Led} {h : Heap} (D : Dy NM h₀ L ρ σ m news h) (o : Obj) (hf : o.isFreed = false) (x : O)
    (R : ∀ news', (h.objs.size, o) ∈ news' → ObjR NM news' (ρ ++ [(h.objs.size, none)]) (h.objs.size, none) x) :
    Dy NM h₀ L (ρ ++ [(h.objs.size, none)]) (σ ++ [x]) m ((h.objs.size, o) :: news) (h.push o) ∧ Le ρ (ρ ++ [(h.objs.size, none)]) news ((h.objs.size, o) :: news) := by
  have fresh : h.objs.size ∉ news.map (·.1) := fun q => absurd (lt_of_news D.N q) (Nat.lt_irrefl _)
  refine ⟨⟨D.F.push o, D.N.push D.F o hf, by rw [List.map_cons, List.nodup_cons]; exact ⟨fresh, D.nd⟩, ⟨by rw [List.length_append, List.length_append, D.P.len]; rfl, fun i y hy => ?_, ?_⟩⟩, ⟨⟨_, rfl⟩, fun p hp hn => ⟨.tail _ hp, ?_⟩⟩⟩
  · rcases at_app_cases hy with hy | ⟨rfl, rfl⟩
    · obtain ⟨p, hp, q⟩ := D.P.obj i y hy
      exact ⟨p, at_app hp, q.mono _ fun q hq _ => .tail _ hq⟩
    · exact ⟨_, by rw [← D.P.len]; exact at_end ρ _, R _ (.head _)⟩
  · rw [adrs_app, List.nodup_append]
    refine ⟨D.P.nd, by simp [adrs, adr], fun a ha b hb e => ?_⟩
    simp only [adrs, adr, List.append_nil, List.mem_singleton] at hb
    subst hb e
    exact fresh (D.P.adr_led _ ha)
  · rw [adrs_app]
    intro q
    rcases List.mem_append.mp q with q | q
    · exact hn q
    · simp only [adrs, adr, List.append_nil, List.mem_singleton] at q
      exact fresh (q ▸ List.mem_map_of_mem hp)
noncomputable def upd (d : Addr) (o : Obj) (news : Led) : Led := news.map fun p => if p.1 = d then (d, o) else p
theorem upd_fst (d : Addr) (o : Obj) (news : Led) : (upd d o news).map (·.1) = news.map (·.1) := by
  unfold upd
  rw [List.map_map]
  refine List.map_congr_left fun p _ => ?_
  show (if p.1 = d then (d, o) else p).1 = p.1
  split
  · rename_i h; exact h.symm
  · rfl
theorem upd_other {d : Addr} {o : Obj} {news : Led} {p : Addr × Obj} (hp : p ∈ news) (hne : p.1 ≠ d) : p ∈ upd d o news := List.mem_map.mpr ⟨p, hp, by rw [if_neg hne]⟩
theorem upd_self {d : Addr} {o o₀ : Obj} {news : Led} (hp : (d, o₀) ∈ news) : (d, o) ∈ upd d o news := List.mem_map.mpr ⟨_, hp, by rw [if_pos rfl]⟩
theorem Dy.change {NM : List Str} {h₀ : Heap} {L : Addr} {ρ : List RA} {σ : H} {m : Str → Option Value} {news : Led} {h h' : Heap} (D : Dy NM h₀ L ρ σ m news h) {i : Nat} {p : RA} {d : Addr} {o₀ o : Obj} {x : O}
    (hi : at? ρ i = some p) (hd : d ∈ adr p) (hl : (d, o₀) ∈ news) (hs : Heap.SameBut d h h') (ho : h'.get? d = some o) (R : ObjR NM (upd d o news) ρ p x) :
    Dy NM h₀ L ρ (setAt σ i x) m (upd d o news) h' ∧ Le ρ ρ news (upd d o news) := by
  have Dn := D.N _ hl
  refine ⟨⟨D.F.change hs Dn.2.1 Dn.2.2, fun q hq => ?_, by rw [upd_fst]; exact D.nd, ⟨by rw [setAt_length]; exact D.P.len, fun j y hy => ?_, D.P.nd⟩⟩, ⟨⟨[], (List.append_nil _).symm⟩, fun q hq hn => ⟨upd_other hq ?_, hn⟩⟩⟩
  · obtain ⟨q0, hq0, rfl⟩ := List.mem_map.mp hq
    by_cases e : q0.1 = d
    · rw [if_pos e]
      exact ⟨ho, Dn.2⟩
    · rw [if_neg e]
      exact ⟨(hs.2 q0.1 e).trans (D.N _ hq0).1, (D.N _ hq0).2⟩
  · rw [at_setAt] at hy
    by_cases e : i = j
    · subst e
      rw [if_pos rfl] at hy
      obtain ⟨_, _, rfl⟩ := Option.map_eq_some_iff.mp hy
      exact ⟨p, hi, R⟩
    · rw [if_neg e] at hy
      obtain ⟨q, hq, r⟩ := D.P.obj j y hy
      refine ⟨q, hq, ?_⟩
      have := r.mono (news' := upd d o news) [] fun z hz hzq => upd_other hz ?_
      · rw [List.append_nil] at this; exact this
      · exact fun e' => adr_apart D.P.nd hi hq e d hd (e' ▸ hzq)
  · exact fun e => hn (e ▸ adr_mem hi d hd)
theorem Dy.same {NM : List Str} {h₀ : Heap} {L : Addr} {ρ : List RA} {σ : H} {m m' : Str → Option Value} {news : Led} {h h' : Heap} (D : Dy NM h₀ L ρ σ m news h) (F : Fr h₀ L h' m') (N : News h₀ L h' news) : Dy NM h₀ L ρ σ m' news h' := ⟨F, N, D.nd, D.P⟩
theorem lk_mem {α : Type} {l : List (Nat × α)} {i : Nat} {v : α} (h : lk l i = some v) : (i, v) ∈ l := by
  induction l with
  | nil => cases h
  | cons p l ih => exact cdE h (fun e h => by cases h; rw [← nbeq.mp e]; exact .head _) fun _ h => .tail _ (ih h)
theorem mem_of {l : List Nat} {i : Nat} (h : mem l i = true) : i ∈ l := by
  induction l with
  | nil => cases h
  | cons k l ih => exact cdE h (fun e _ => by rw [nbeq.mp e]; exact .head _) fun _ h => .tail _ (ih h)
noncomputable def nameIs (NM : List Str) (a : Nat) (f : Str → Bool) : Bool := ob (at? NM a) f
theorem nameIs_of {NM : List Str} {a : Nat} {f : Str → Bool} {x : Str} (h : nameIs NM a f = true) (hx : at? NM a = some x) : f x = true := by unfold nameIs at h; rw [hx] at h; exact h
noncomputable def intX (v : Value) : Option {i : Int // ∃ t, v = .int i t} := match v with
  | .int i _ => some ⟨i, _, rfl⟩
  | _ => none
noncomputable def strX (v : Value) : Option {i : Str // ∃ t, v = .str i t} := match v with
  | .str i _ => some ⟨i, _, rfl⟩
  | _ => none
noncomputable def refX (v : Value) : Option {a : Addr // v = .ref a} := match v with
  | .ref a => some ⟨a, rfl⟩
  | _ => none
noncomputable def valB (K : Frag) (C : Addr) (x : Str) (v : V) : Bool := ob (intV v) fun i => ob (findIn K (.ref C) x) fun y => ob y fun u => ob (intX u) fun j => decide (i.1 = j.1) && (specialIn K u "__get__" == some none) && !copiedNames.contains x
noncomputable def cfA (r : Option CFound) : Option {g : Addr // r = some (.val (.ref g))} := match r with
  | some (.val (.ref g)) => some ⟨g, rfl⟩
  | _ => none
noncomputable def initB (K : Frag) (C : Addr) : Option Addr → Bool
  | some f => (findIn K (.ref C) "__init__" == some (some (.ref f))) && isFn K (.ref f)
  | none => findIn K (.ref C) "__init__" == some (some (.builtin "object.__init__"))
noncomputable def ownB (K : Frag) (C : Addr) (x : Str) : Bool := plainGet K C x && (findIn K (.ref C) x == some none) && (takerIn K C x == some none)
noncomputable def methB (K : Frag) (C f : Addr) (x : Str) : Bool := plainGet K C x && (findIn K (.ref C) x == some (some (.ref f))) && isFn K (.ref f)
noncomputable def cmB (K : Frag) (C f : Addr) (x : Str) : Bool := (specialIn K (.ref C) "__getattribute__" == some (some (.builtin "type.__getattribute__"))) && (typeIn K (.ref C) == some (.type "type")) && readsIn K C (.type "type") && ob (cfA (findCls K (.ref C) (.type "type") x)) fun g => Nat.beq g.1 f
noncomputable def clB (K : Frag) (NM : List Str) (C : Addr) (cx : CX) : Bool :=
  hasDictIn K C && (findIn K (.ref C) "__setattr__" == some (some (.builtin "object.__setattr__"))) && plainOver K C && makesIn K C &&
  (cx.own.all fun a => nameIs NM a (ownB K C)) &&
  (cx.meths.all fun p => nameIs NM p.1 (methB K C p.2)) &&
  (cx.vals.all fun p => nameIs NM p.1 fun x => plainGet K C x && valB K C x p.2) &&
  initB K C cx.init &&
  (cx.mro.all fun D => isIn K (.ref C) D) &&
  (cx.non.all fun D => kin_not K C D) &&
  (plainGet K C "__class__" && (findIn K (.ref C) "__class__" == some (some (.builtin "object.__class__"))) && kin_notT K C "bool" && (mroIn K C (.type "object") == some true)) &&
  (cx.cm.all fun p => nameIs NM p.1 (cmB K C p.2))
structure ClF (K : Frag) (NM : List Str) (C : Addr) (cx : CX) : Prop where
  dict : hasDictIn K C = true
  sat : findIn K (.ref C) "__setattr__" = some (some (.builtin "object.__setattr__"))
  over : plainOver K C = true
  mkI : makesIn K C = true
  own : ∀ a ∈ cx.own, nameIs NM a (ownB K C) = true
  meths : ∀ p ∈ cx.meths, nameIs NM p.1 (methB K C p.2) = true
  vals : ∀ p ∈ cx.vals, nameIs NM p.1 (fun x => plainGet K C x && valB K C x p.2) = true
  init : initB K C cx.init = true
  mro : ∀ D ∈ cx.mro, isIn K (.ref C) D = true
  non : ∀ D ∈ cx.non, kin_not K C D = true
  pg : plainGet K C "__class__" = true
  fc : findIn K (.ref C) "__class__" = some (some (.builtin "object.__class__"))
  nt : kin_notT K C "bool" = true
  ob : mroIn K C (.type "object") = some true
  cm : ∀ p ∈ cx.cm, nameIs NM p.1 (cmB K C p.2) = true
theorem clB_of {K : Frag} {NM : List Str} {C : Addr} {cx : CX} (h : clB K NM C cx = true) : ClF K NM C cx :=
  anE h fun h c15 => anE h fun h h2 => anE h2 fun h2 c14 => anE h2 fun h2 c13 => anE h2 fun c11 c12 => anE h fun h c10 => anE h fun h c9 => anE h fun h c8 => anE h fun h c7 => anE h fun h c6 => anE h fun h c5 => anE h fun h c4 => anE h fun h c3 => anE h fun c1 c2 =>
  ⟨c1, eq_ok c2, c3, c4, all_ok c5, all_ok c6, all_ok c7, c8, all_ok c9, all_ok c10, c11, eq_ok c12, c13, eq_ok c14, all_ok c15⟩
noncomputable def glB (K : Frag) : Bool := (specialIn K (.builtin "object.__class__") "__get__" == some (some (.builtin "getset_descriptor.__get__"))) && (takesIn K (.builtin "object.__class__") == some true)
noncomputable def obB (K : Frag) (a : Addr) : Bool := ob (K.lookup a) fun o => (refX o.cls).isSome
noncomputable def valIs (v : V) (x : Value) : Bool := match v with
  | .none => x == .none
  | .bool b => x == .bool b
  | .int i => ob (intX x) fun j => decide (i = j.1)
  | .str s => ob (strX x) fun t => s == t.1
  | .val a => x == .ref a
  | .bi b => x == .builtin (biId b)
  | .tyBool => x == .type "bool"
  | .tyList => x == .type "list"
  | _ => false
theorem valIs_ok {v : V} {x : Value} (h : valIs v x = true) (ρ : List RA) : VR ρ v x := by
  cases v with
  | none => rw [eq_ok h]; exact .none
  | bool b => rw [eq_ok h]; exact .bool _
  | int i => exact osE h fun j ⟨t, e⟩ h2 => by rw [e, of_decide_eq_true h2]; exact .int _ _
  | str s => exact osE h fun j ⟨t, e⟩ h2 => by rw [e, eq_ok h2]; exact .str _ _
  | val a => rw [eq_ok h]; exact .val _
  | bi b => rw [eq_ok h]; exact .bi _
  | tyBool => rw [eq_ok h]; exact .tyBool
  | tyList => rw [eq_ok h]; exact .tyList
  | ref i => cases h
  | opq i => cases h
noncomputable def valsIs : List V → List Value → Bool
  | [], [] => true
  | v :: vs, x :: xs => valIs v x && valsIs vs xs
  | _, _ => false
theorem valsIs_ok (ρ : List RA) {vs : List V} : ∀ {xs : List Value}, valsIs vs xs = true → VsR ρ vs xs := by
  induction vs with
  | nil =>
    intro xs h
    cases xs with
    | nil => exact .nil
    | cons _ _ => cases h
  | cons v vs ih =>
    intro xs h
    cases xs with
    | nil => cases h
    | cons x xs =>
      exact anE h fun h1 h2 => .cons (valIs_ok h1 ρ) (ih h2)
noncomputable def seqD (d : Data) : Option {us : Array Value // ∃ n, d = .seq us n} := match d with
  | .seq us _ => some ⟨us, _, rfl⟩
  | _ => none
noncomputable def tpB (K : Frag) (a : Addr) (xs : List V) : Bool := ob (K.lookup a) fun o => (o.cls == .type "tuple") && ob (seqD o.data) fun us => valsIs xs us.1.toList
structure WfT (K : Frag) (NM : List Str) (T : Tab) : Prop where
  cl : ∀ p ∈ T.cl, clB K NM p.1 p.2 = true
  gl : glB K = true
  ob : ∀ a ∈ T.ob, obB K a = true
  nm : nmOk NM
  tp : ∀ p ∈ T.tp, tpB K p.1 p.2 = true
theorem WfT.of {K : Frag} {NM : List Str} {T : Tab} (W : WfT K NM T) {C : Addr} {cx : CX} (h : lk T.cl C = some cx) : ClF K NM C cx := clB_of (W.cl (C, cx) (lk_mem h))
theorem WfT.tup {K : Frag} {NM : List Str} {T : Tab} (W : WfT K NM T) {h : Heap} (X : K.In h) {a : Addr} {xs : List V} (e : lk T.tp a = some xs) (ρ : List RA) : ∃ us, IsTup h a us.toArray ∧ VsR ρ xs us := by
  exact obE (W.tp _ (lk_mem e)) fun o ho h1 => anE h1 fun hc h1 => osE h1 fun us ⟨n, hd⟩ h2 => ⟨us.toList, ⟨o, X _ _ ho, eq_ok hc, n, by rw [Array.toArray_toList]; exact hd⟩, valsIs_ok ρ h2⟩
noncomputable def Post (NM : List Str) (h₀ : Heap) (L : Addr) (m : Str → Option Value) (ρ : List RA) (news : Led) (σ' : H) (r : V) (Q : Value → Shared → Prop) (s : Shared) : Prop :=
  ∀ ρ' news' h' tk y, Dy NM h₀ L ρ' σ' m news' h' → Le ρ ρ' news news' → VR ρ' r y → Q y { heap := h', gens := s.gens, drawn := s.drawn, toks := tk, os := s.os }
noncomputable def PostU (NM : List Str) (h₀ : Heap) (L : Addr) (m : Str → Option Value) (ρ : List RA) (news : Led) (σ' : H) (Q : Unit → Shared → Prop) (s : Shared) : Prop :=
  ∀ ρ' news' h' tk, Dy NM h₀ L ρ' σ' m news' h' → Le ρ ρ' news news' → Q () { heap := h', gens := s.gens, drawn := s.drawn, toks := tk, os := s.os }
theorem Post.now {NM : List Str} {h₀ : Heap} {L : Addr} {m : Str → Option Value} {ρ : List RA} {news : Led} {σ : H} {r : V} {Q : Value → Shared → Prop} {s : Shared} {y : Value} {tk : Nat}
    (q : Post NM h₀ L m ρ news σ r Q s) (D : Dy NM h₀ L ρ σ m news s.heap) (hy : VR ρ r y) : Q y { heap := s.heap, gens := s.gens, drawn := s.drawn, toks := tk, os := s.os } := q ρ news s.heap tk y D .refl hy
theorem isStr_iff {x y : Str} {t : Tok} : (Value.str x t).isStr y = true ↔ x = y := by
  show (x == y) = true ↔ _
  exact beq_iff_eq
section fs
variable {NM : List Str} {ρ : List RA}
theorem FsR.noref {fs : List (Nat × V)} {es : List DictEntry} (h : FsR NM ρ fs es) : es.any (·.refKey) = false := by
  induction h with
  | nil => rfl
  | cons a b c ih => rw [List.any_cons, ih]; rfl
theorem FsR.get {fs : List (Nat × V)} {es : List DictEntry} (nm : nmOk NM) (h : FsR NM ρ fs es) {a : Nat} {x : Str} (hx : at? NM a = some x) :
    (∀ v, lk fs a = some v → ∃ u, getL x es = some (some u) ∧ VR ρ v u) ∧ (lk fs a = none → getL x es = some none) := by
  induction h with
  | nil => exact ⟨fun v e => (by cases e), fun _ => rfl⟩
  | cons hi hv hr ih =>
    rename_i i y v hs t u fs es
    unfold getL at ih ⊢
    simp only [List.find?_cons]
    show (∀ v', (bif Nat.beq i a then some v else lk fs a) = some v' → _) ∧ ((bif Nat.beq i a then some v else lk fs a) = none → _)
    cases e : Nat.beq i a with
    | true =>
      have := nbeq.mp e
      subst this
      rw [hx] at hi
      cases hi
      have : (Value.str x t).isStr x = true := isStr_iff.mpr rfl
      simp only [this]
      exact ⟨fun v' e' => (by cases e'; exact ⟨u, rfl, hv⟩), fun e' => (by cases e')⟩
    | false =>
      have : (Value.str y t).isStr x = false := Bool.eq_false_iff.mpr fun q => by
        have q := isStr_iff.mp q
        subst q
        rw [nm _ _ _ hi hx] at e
        rw [nbeq.mpr rfl] at e
        cases e
      simp only [this, List.any_cons]
      exact ih
theorem FsR.put {fs : List (Nat × V)} {es : List DictEntry} (nm : nmOk NM) (h : FsR NM ρ fs es) {a : Nat} {x : Str} (hx : at? NM a = some x) {v : V} {u : Value} (hv : VR ρ v u) (hs : Int) (t : Tok) :
    FsR NM ρ (MP.put fs a v) (putL x hs (.str x t) u es) := by
  induction h with
  | nil => exact .cons hx hv .nil
  | cons hi hw hr ih =>
    rename_i i y w hs' t' u' fs es
    show FsR NM ρ (bif Nat.beq i a then (i, v) :: fs else (i, w) :: MP.put fs a v) (putL _ _ _ _ (_ :: _))
    unfold putL
    cases e : Nat.beq i a with
    | true =>
      have := nbeq.mp e
      subst this
      have hi' := hi
      rw [hx] at hi'
      cases hi'
      have : (Value.str x t').isStr x = true := isStr_iff.mpr rfl
      simp only [this, if_true]
      exact .cons hi hv hr
    | false =>
      have : (Value.str y t').isStr x = false := Bool.eq_false_iff.mpr fun q => by
        have q := isStr_iff.mp q
        subst q
        rw [nm _ _ _ hi hx] at e
        rw [nbeq.mpr rfl] at e
        cases e
      simp only [this, Bool.false_eq_true, if_false]
      exact .cons hi hw ih
theorem FsR.length {fs : List (Nat × V)} {es : List DictEntry} (h : FsR NM ρ fs es) : es.length = fs.length := by
  induction h with
  | nil => rfl
  | cons _ _ _ ih => exact congrArg Nat.succ ih
end fs
theorem VR.handed {ρ : List RA} {v : V} {x : Value} (h : VR ρ v x) (hb : ∀ b, v ≠ .bi b) : handedIn x = true := by
  cases h <;> first | rfl | exact absurd rfl (hb _)
theorem upd_Upd {d : Addr} {o o' : Obj} : ∀ {news : Led}, (d, o) ∈ news → (news.map (·.1)).Nodup → W.Upd d o o' news (upd d o' news)
  | p :: r, h, nd => by
    rw [List.map_cons, List.nodup_cons] at nd
    rcases List.mem_cons.mp h with rfl | h
    · have hr : ∀ q ∈ r, q.1 ≠ d := fun q hq e => nd.1 (List.mem_map.mpr ⟨q, hq, e⟩)
      have : upd d o' ((d, o) :: r) = (d, o') :: r := by
        unfold upd
        rw [List.map_cons, if_pos rfl]
        congr 1
        conv => rhs; rw [← List.map_id r]
        exact List.map_congr_left fun q hq => by rw [if_neg (hr q hq)]; rfl
      rw [this]
      exact .head hr
    · have hp : p.1 ≠ d := fun e => nd.1 (e ▸ List.mem_map_of_mem h)
      have : upd d o' (p :: r) = p :: upd d o' r := by
        show (if p.1 = d then (d, o') else p) :: _ = _
        rw [if_neg hp]; rfl
      rw [this]
      exact .tail hp (upd_Upd h nd.2)
theorem Dy.change' {NM : List Str} {h₀ : Heap} {L : Addr} {ρ : List RA} {σ : H} {m : Str → Option Value} {news : Led} {h h' : Heap} (D : Dy NM h₀ L ρ σ m news h) {i : Nat} {p : RA} {d : Addr} {o₀ o : Obj} {x : O}
    (hi : at? ρ i = some p) (hd : d ∈ adr p) (hl : (d, o₀) ∈ news) (F' : Fr h₀ L h' m) (N' : News h₀ L h' (upd d o news)) (R : ObjR NM (upd d o news) ρ p x) :
    Dy NM h₀ L ρ (setAt σ i x) m (upd d o news) h' ∧ Le ρ ρ news (upd d o news) := by
  refine ⟨⟨F', N', by rw [upd_fst]; exact D.nd, ⟨by rw [setAt_length]; exact D.P.len, fun j y hy => ?_, D.P.nd⟩⟩, ⟨⟨[], (List.append_nil _).symm⟩, fun q hq hn => ⟨upd_other hq ?_, hn⟩⟩⟩
  · rw [at_setAt] at hy
    by_cases e : i = j
    · subst e
      rw [if_pos rfl] at hy
      obtain ⟨_, _, rfl⟩ := Option.map_eq_some_iff.mp hy
      exact ⟨p, hi, R⟩
    · rw [if_neg e] at hy
      obtain ⟨q, hq, r⟩ := D.P.obj j y hy
      refine ⟨q, hq, ?_⟩
      have := r.mono (news' := upd d o news) [] fun z hz hzq => upd_other hz ?_
      · rw [List.append_nil] at this; exact this
      · exact fun e' => adr_apart D.P.nd hi hq e d hd (e' ▸ hzq)
  · exact fun e => hn (e ▸ adr_mem hi d hd)
section ops
variable {prog : Program} {w : World} {A : Around} {E : Value → Shared → Prop} {s : Shared} {K : Frag} {h₀ : Heap} {L : Addr} {m : Str → Option Value} {news : Led} {ρ : List RA} {σ : H} {NM : List Str} {T : Tab} {Q : Value → Shared → Prop}
theorem inst_of (D : Dy NM h₀ L ρ σ m news s.heap) {i : Nat} {C : Addr} {fs : List (Nat × V)} {o : O} (e : at? σ i = some o) (eo : o = .inst C fs) {v : V} {x : Value} (hv : VR ρ v x) (ev : v = .ref i) {P : Prop}
    (k : ∀ a d es n, x = .ref a → at? ρ i = some (a, some d) → (a, instObj C d) ∈ news → (d, dictOf es n) ∈ news → FsR NM ρ fs es → InstAt s.heap a (instObj C d) C (some (dictOf es n)) → P) : P := by
  subst eo ev
  obtain ⟨⟨a, d'⟩, hp, d, es, n, rfl, h1, h2, hfs⟩ := D.P.obj _ _ e
  cases hv with
  | ref hp' =>
    have h : at? ρ i = some (a, some d) := hp
    rw [hp'] at h
    cases h
    exact k a d es n rfl hp' h1 h2 hfs (InstAt.of_news D.N h1 h2)
theorem getF_ok (X : K.In h₀) (D : Dy NM h₀ L ρ σ m news s.heap) (nm : nmOk NM) {C : Addr} {cx : CX} (c : ClF K NM C cx) {fs : List (Nat × V)} {a1 d : Addr} {es : List DictEntry} {n : Nat} (hfs : FsR NM ρ fs es) (I : InstAt s.heap a1 (instObj C d) C (some (dictOf es n)))
    {u : V} {a : Nat} {x : Str} (hx : at? NM a = some x) {T : Tab} (e : getF T cx a (lk fs a) = some u) {ex : Bool} (q : Post NM h₀ L m ρ news σ u Q s) : wpAny (model prog w) A (getAttr (.ref a1) x ex) Q E s := by
  have g := hfs.get nm hx
  revert e g
  cases lk fs a with
  | some v' =>
    exact fun e g => gdE e fun hb e => gdE e fun hm e => by
      cases e
      obtain ⟨u', hu, hvr⟩ := g.1 _ rfl
      exact anE (nameIs_of (c.own _ (mem_of hm)) hx) fun c1 c3 => anE c1 fun c1 c2 => get_own D.F X I c1 c.dict (eq_ok c2) rfl hu (hvr.handed (fun b hb' => by rw [hb'] at hb; cases hb)) (q.now D hvr)
  | none =>
    exact fun e g => anE (nameIs_of (c.vals _ (lk_mem e)) hx) fun c1 c2 => osE c2 fun i g1 c3 => obE c3 fun y hf c4 => obE c4 fun u' g3 c5 => osE c5 fun j ⟨t, g4⟩ c6 => anE c6 fun c7 c8 => anE c7 fun c9 c10 => by
      have k1 : u = .int i := g1
      have k2 : i = j := of_decide_eq_true c9
      rw [k1, k2] at q
      rw [g3] at hf
      subst g4
      exact get_cls D.F X I c1 c.dict hf (eq_ok c10) rfl (not_ok c8) (g.2 rfl) (q.now D (.int _ _))
theorem getA_ok (X : K.In h₀) (W : WfT K NM T) (D : Dy NM h₀ L ρ σ m news s.heap) {v u : V} {x : Value} (hv : VR ρ v x) {a : Nat} {nm : Str} (hx : at? NM a = some nm) (e : getA T v a σ = some u) {ex : Bool}
    (q : Post NM h₀ L m ρ news σ u Q s) : wpAny (model prog w) A (getAttr x nm ex) Q E s :=
  bsE e fun i hi e => bdE e fun o ho e => bsE e fun p hp e => bdE e fun cx hcx e => inst_of D ho hp hv hi fun a1 d es n hx' _ _ _ hfs I => hx' ▸ getF_ok X D W.nm (W.of hcx) hfs I hx e q
end ops
theorem adr_nd {ρ : List RA} {k : Nat} {p : RA} (nd : (adrs ρ).Nodup) (h : at? ρ k = some p) : (adr p).Nodup := by
  induction ρ generalizing k with
  | nil => cases h
  | cons z r ih =>
    cases k with
    | zero => cases h; exact (List.nodup_append.mp nd).1
    | succ k => exact ih (List.nodup_append.mp nd).2.1 h
theorem adr_ne {ρ : List RA} {k : Nat} {a d : Addr} (nd : (adrs ρ).Nodup) (h : at? ρ k = some (a, some d)) : a ≠ d := by
  have : ([a, d] : List Addr).Nodup := adr_nd nd h
  rintro rfl
  exact (List.nodup_cons.mp this).1 (.head _)
section ops
variable {prog : Program} {w : World} {A : Around} {E : Value → Shared → Prop} {s : Shared} {K : Frag} {h₀ : Heap} {L : Addr} {m : Str → Option Value} {news : Led} {ρ : List RA} {σ σ' : H} {NM : List Str} {T : Tab} {Q : Value → Shared → Prop}
noncomputable def PostM (ρ : List RA) (fv : V) (first : List V) (Q : Value × List Value → Shared → Prop) (s : Shared) : Prop := ∀ tk y ys, VR ρ fv y → VsR ρ first ys → Q (y, ys) { heap := s.heap, gens := s.gens, drawn := s.drawn, toks := tk, os := s.os }
theorem methF_ok (X : K.In h₀) (D : Dy NM h₀ L ρ σ m news s.heap) (nm : nmOk NM) {C : Addr} {cx : CX} (c : ClF K NM C cx) {fs : List (Nat × V)} {a1 d : Addr} {es : List DictEntry} {n i : Nat} (hfs : FsR NM ρ fs es) (I : InstAt s.heap a1 (instObj C d) C (some (dictOf es n))) (hv : VR ρ (.ref i) (.ref a1))
    {r : V × List V} {a : Nat} {x : Str} (hx : at? NM a = some x) (e : methF cx a i (lk fs a) = some r) {pl : Sem Bool} {Q : Value × List Value → Shared → Prop} (q : PostM ρ r.1 r.2 Q s) : wpAny (model prog w) A (getMethod (.ref a1) x pl) Q E s := by
  have g := (hfs.get nm hx).2
  revert e g
  cases lk fs a with
  | some v' => exact fun e => by cases e
  | none =>
    exact fun e g => mpE e fun f hf e => by
      cases e
      exact anE (nameIs_of (c.meths _ (lk_mem hf)) hx) fun c1 c3 => anE c1 fun c1 c2 => method_inst D.F X I c1 (eq_ok c2) c3 (g rfl) (q _ _ _ (.val _) (.cons hv .nil))
theorem meth_name (hx : at? NM a = some nm) (hp : at? NM b = some y) (h : Nat.beq a b = true) : nm = y := by
  rw [nbeq.mp h, hp] at hx; cases hx; rfl
theorem getM_ok (X : K.In h₀) (W : WfT K NM T) (D : Dy NM h₀ L ρ σ m news s.heap) {v : V} {r : V × List V} {x : Value} (hv : VR ρ v x) {a : Nat} {nm : Str} (hx : at? NM a = some nm) {nmApp nmPop : Nat}
    (happ : at? NM nmApp = some "append") (hpop : at? NM nmPop = some "pop") (e : getM T v a σ nmApp nmPop = some r) {pl : Sem Bool} {Q : Value × List Value → Shared → Prop}
    (q : PostM ρ r.1 r.2 Q s) : wpAny (model prog w) A (getMethod x nm pl) Q E s := by
  cases v with
  | ref i =>
    refine bdE e fun o ho e => ?_
    cases o with
    | inst C fs => exact bdE e fun cx hcx e => inst_of D ho rfl hv rfl fun a1 d es n hx' _ _ _ hfs I => by subst hx'; exact methF_ok X D W.nm (W.of hcx) hfs I hv hx e q
    | list xs =>
      obtain ⟨p, hp, vs, n, hd, h1, hvs⟩ := D.P.obj _ _ ho
      have hv' := hv
      cases hv with
      | ref hp' =>
        rw [hp] at hp'
        cases hp'
        exact cdE e (fun hb e => by cases e; cases meth_name hx happ hb; exact kl_method D.N h1 PySem.F.slot_list_append rfl (q _ _ _ (.bi .append) (.cons hv' .nil)))
          fun _ e => gdE e fun hb e => by cases e; cases meth_name hx hpop hb; exact kl_method D.N h1 PySem.F.slot_list_pop rfl (q _ _ _ (.bi .pop) (.cons hv' .nil))
    | _ => cases e
  | val C =>
    exact bdE e fun cx hcx e => mpE e fun f hf e => by
      cases e
      cases hv
      exact anE (nameIs_of ((W.of hcx).cm _ (lk_mem hf)) hx) fun c3 c4 => anE c3 fun c2 c3 => anE c2 fun c1 c2 => osE c4 fun g hg c5 => by
        have c5 : g = f := nbeq.mp c5
        subst c5
        exact method_of_cls D.F X (eq_ok c1) (cls_val D.F X (eq_ok c2) c3 hg rfl (q _ _ _ (.val _) .nil))
  | _ => cases e
theorem setA_ok (X : K.In h₀) (W : WfT K NM T) (D : Dy NM h₀ L ρ σ m news s.heap) {o v : V} {x y : Value} (ho : VR ρ o x) (hv : VR ρ v y) {a : Nat} {nm : Str} (hx : at? NM a = some nm) (e : setA T o a v σ = some σ') {Q : Unit → Shared → Prop}
    (q : PostU NM h₀ L m ρ news σ' Q s) : wpAny (model prog w) A (setAttr x nm y) Q E s :=
  bsE e fun i hi e => gdE e fun _ e => bdE e fun ob hob e => mpE e fun o' e he' => bsE e fun p hp e => bdE e fun cx hcx e => gdE e fun hm e => gdE e fun hle e => inst_of D hob hp ho hi fun a1 d es n hx' p1 h1 h2 hfs I => by
    obtain ⟨C, fs⟩ := p
    have c : ClF K NM C cx := W.of hcx
    have hfs' := hfs.put W.nm hx hv (PyData.keyHash w.params nm) (s.toks + 1)
    have hl : (getL nm es).isSome = true := by
      have g := hfs.get W.nm hx
      revert g
      cases lk fs a with
      | none => exact fun g => by rw [g.2 rfl]; rfl
      | some u => exact fun g => by obtain ⟨_, hu, _⟩ := g.1 _ rfl; rw [hu]; rfl
    subst hx'
    refine anE (nameIs_of (c.own _ (mem_of hm)) hx) fun _ c3 => set_dict D.F X D.N I rfl c.sat c.over (eq_ok c3) c.dict hl rfl (upd_Upd h2 D.nd) ?_ fun h' F' N' => ?_
    · rw [hfs'.length]
      exact Nat.le_trans (Nat.le_of_ble_eq_true hle) (by decide)
    · cases e
      subst he'
      have Z := D.change' (x := .inst C (put fs a v)) p1 (snd_adr rfl) h2 F' N' ⟨d, _, _, rfl, upd_other h1 (adr_ne D.P.nd p1), upd_self h2, hfs'⟩
      exact q _ _ _ _ Z.1 Z.2
end ops
theorem Dy.allocN {NM : List Str} {h₀ : Heap} {L : Addr} {ρ : List RA} {σ : H} {m : Str → Option Value} {news : Led} {h h' : Heap} (D : Dy NM h₀ L ρ σ m news h) {p : RA} {adds : Led} (F' : Fr h₀ L h' m) (N' : News h₀ L h' (adds ++ news))
    (hnd : (adds.map (·.1)).Nodup) (hfr : ∀ q ∈ adds, q.1 ∉ news.map (·.1)) (hp : ∀ a ∈ adr p, a ∈ adds.map (·.1)) (hpn : (adr p).Nodup) (x : O) (R : ObjR NM (adds ++ news) (ρ ++ [p]) p x) :
    Dy NM h₀ L (ρ ++ [p]) (σ ++ [x]) m (adds ++ news) h' ∧ Le ρ (ρ ++ [p]) news (adds ++ news) := by
  have fr : ∀ a ∈ adr p, a ∉ news.map (·.1) := fun a ha q => by
    obtain ⟨z, hz, rfl⟩ := List.mem_map.mp (hp a ha)
    exact hfr z hz q
  refine ⟨⟨F', N', ?_, ⟨by rw [List.length_append, List.length_append, D.P.len]; rfl, fun i y hy => ?_, ?_⟩⟩, ⟨⟨_, rfl⟩, fun q hq hn => ⟨List.mem_append_right _ hq, ?_⟩⟩⟩
  · rw [List.map_append, List.nodup_append]
    refine ⟨hnd, D.nd, fun a ha b hb e => ?_⟩
    subst e
    obtain ⟨z, hz, rfl⟩ := List.mem_map.mp ha
    exact hfr z hz hb
  · rcases at_app_cases hy with hy | ⟨rfl, rfl⟩
    · obtain ⟨q, hq, r⟩ := D.P.obj i y hy
      exact ⟨q, at_app hq, r.mono _ fun q hq _ => List.mem_append_right _ hq⟩
    · exact ⟨_, by rw [← D.P.len]; exact at_end ρ _, R⟩
  · rw [adrs_app, List.nodup_append]
    refine ⟨D.P.nd, by simpa [adrs] using hpn, fun a ha b hb e => ?_⟩
    simp only [adrs, List.append_nil] at hb
    subst e
    exact fr _ hb (D.P.adr_led _ ha)
  · rw [adrs_app]
    intro z
    rcases List.mem_append.mp z with z | z
    · exact hn z
    · simp only [adrs, List.append_nil] at z
      exact fr _ z (List.mem_map_of_mem hq)
theorem Dy.alloc1 {NM : List Str} {h₀ : Heap} {L : Addr} {ρ : List RA} {σ : H} {m : Str → Option Value} {news : Led} {h h' : Heap} (D : Dy NM h₀ L ρ σ m news h) {a : Addr} {o : Obj} (F' : Fr h₀ L h' m) (N' : News h₀ L h' ((a, o) :: news))
    (hfr : a ∉ news.map (·.1)) (x : O) (R : ObjR NM ((a, o) :: news) (ρ ++ [(a, none)]) (a, none) x) :
    Dy NM h₀ L (ρ ++ [(a, none)]) (σ ++ [x]) m ((a, o) :: news) h' ∧ Le ρ (ρ ++ [(a, none)]) news ((a, o) :: news) :=
  D.allocN (p := (a, none)) (adds := [(a, o)]) F' N' (by simp) (by simpa using hfr) (by simp [adr]) (by simp [adr]) x R
theorem fresh_lt {news : Led} {a : Addr} (h : ∀ p ∈ news, p.1 < a) : a ∉ news.map (·.1) := fun q => by
  obtain ⟨p, hp, e⟩ := List.mem_map.mp q
  have := h p hp
  rw [e] at this
  exact Nat.lt_irrefl _ this
theorem Dy.last {NM : List Str} {h₀ : Heap} {L : Addr} {ρ : List RA} {σ : H} {m : Str → Option Value} {news : Led} {h : Heap} (D : Dy NM h₀ L ρ σ m news h) (p : RA) : at? (ρ ++ [p]) σ.length = some p := by
  rw [← D.P.len]; exact at_end ρ p
theorem fresh_size {NM : List Str} {h₀ : Heap} {L : Addr} {ρ : List RA} {σ : H} {m : Str → Option Value} {news : Led} {h : Heap} (D : Dy NM h₀ L ρ σ m news h) : h.objs.size ∉ news.map (·.1) := fun q => absurd (lt_of_news D.N q) (Nat.lt_irrefl _)
section ops
variable {prog : Program} {w : World} {A : Around} {E : Value → Shared → Prop} {s : Shared} {K : Frag} {h₀ h : Heap} {L : Addr} {m : Str → Option Value} {news : Led} {ρ : List RA} {σ σ' : H} {NM : List Str} {T : Tab} {Q : Value → Shared → Prop}
theorem Dy.isList (D : Dy NM h₀ L ρ σ m news h) {i : Nat} {xs : List V} (e : at? σ i = some (.list xs)) {v : V} {x : Value} (hv : VR ρ v x) (ev : v = .ref i) {P : Prop}
    (k : ∀ a vs n, x = .ref a → at? ρ i = some (a, none) → (a, listOf vs.toArray n) ∈ news → VsR ρ xs vs → h.IsList a vs.toArray → P) : P := by
  subst ev
  obtain ⟨⟨a, d⟩, hp, vs, n, rfl, h1, hvs⟩ := D.P.obj _ _ e
  cases hv with
  | ref hp' =>
    have hp : at? ρ i = some (a, none) := hp
    rw [hp'] at hp
    cases hp
    exact k a vs n rfl hp' h1 hvs ⟨_, (D.N _ h1).1, rfl, _, rfl⟩
theorem Dy.isTup (D : Dy NM h₀ L ρ σ m news h) {i : Nat} {xs : List V} (e : at? σ i = some (.tup xs)) {v : V} {x : Value} (hv : VR ρ v x) (ev : v = .ref i) {P : Prop}
    (k : ∀ a vs, x = .ref a → at? ρ i = some (a, none) → VsR ρ xs vs → IsTup h a vs.toArray → P) : P := by
  subst ev
  obtain ⟨⟨a, d⟩, hp, vs, rfl, h1, hvs⟩ := D.P.obj _ _ e
  cases hv with
  | ref hp' =>
    have hp : at? ρ i = some (a, none) := hp
    rw [hp'] at hp
    cases hp
    exact k a vs rfl hp' hvs ⟨_, (D.N _ h1).1, rfl, _, rfl⟩
theorem Dy.isDict (D : Dy NM h₀ L ρ σ m news h) {i : Nat} {es : List (Int × V)} (e : at? σ i = some (.dict es)) {v : V} {x : Value} (hv : VR ρ v x) (ev : v = .ref i) {P : Prop}
    (k : ∀ a o f, x = .ref a → at? ρ i = some (a, none) → (a, o) ∈ news → DR ρ es f → (a == sysModules) = false → (es = [] → o = { cls := .type "dict", data := .dict #[] }) → h.IntMap a f → h.DictLe a es.length → P) : P := by
  subst ev
  obtain ⟨⟨a, d⟩, hp, o, f, rfl, h1, h2, h3, h4, h5⟩ := D.P.obj _ _ e
  cases hv with
  | ref hp' =>
    have hp : at? ρ i = some (a, none) := hp
    rw [hp'] at hp
    cases hp
    have hN : h.get? a = some o := (D.N _ h1).1
    obtain ⟨c1, des, ep, c2, c3, c4, c5⟩ := h2
    refine k a o f rfl hp' h1 h3 h4 h5 ⟨_, _, _, hN, c1, c2, c3, c5⟩ fun o' es' ep' ho' hd' => ?_
    rw [hN] at ho'
    cases ho'
    rw [c2] at hd'
    cases hd'
    exact c4
theorem DR.isSome {ρ : List RA} {es : List (Int × V)} {f : Int → Option Value} (h : DR ρ es f) (k : Int) : (f k).isSome = (lkI es k).isSome := by
  have := h k
  revert this
  cases lkI es k with
  | none => exact fun this => by rw [this]; rfl
  | some v => exact fun ⟨u, a, _⟩ => by rw [a]; rfl
theorem ble_le {a b : Nat} (h : Nat.ble a b = true) : a ≤ b := Nat.le_of_ble_eq_true h
theorem size_ok {a b : Nat} (h : Nat.ble a b = true) (hb : b ≤ 10000) : a ≤ sizeLine := Nat.le_trans (ble_le h) (Nat.le_trans hb (by decide))
theorem int_of {v : V} {x : Value} (h : VR ρ v x) {i : Int} (e : v = .int i) : ∃ t, x = .int i t := by
  subst e; cases h; exact ⟨_, rfl⟩
theorem opI_ok {op : Operator} {i j z : Int} {t u : Tok} (e : opI op i j = some z) (q : ∀ tk tk', Q (.int z tk) { heap := s.heap, gens := s.gens, drawn := s.drawn, toks := tk', os := s.os }) : wpAny (model prog w) A (binaryOp op (.int i t) (.int j u)) Q E s := by
  cases op with
  | Add => cases e; exact add_int (q _ _)
  | Sub => cases e; exact sub_int (q _ _)
  | Mod => exact gdE e fun h e => by cases e; exact mod_int (fun c => by rw [c] at h; cases h) (q _ _)
  | FloorDiv =>
    exact gdE e fun h e => by
      cases e
      obtain ⟨h1, h2⟩ := of_decide_eq_true h
      exact floordiv_int (Int.ne_of_gt h1) (q _ _) (.inl (PyProof.noPylong_small (by omega)))
  | Mult =>
    exact gdE e fun h e => by
      cases e
      obtain ⟨h1, h2⟩ := of_decide_eq_true h
      exact mul_int (q _ _) (PySem.IntMulOk.of_right (PySem.intBits_le_64 (by omega) (by omega)))
  | Pow =>
    exact gdE e fun h e => by
      cases e
      obtain ⟨rfl, h1, h2⟩ := of_decide_eq_true h
      exact pow_int_small h1 (by omega) (by decide) (q _ _)
  | _ => cases e
theorem listD {NM : List Str} {news : Led} {ρ : List RA} {a : Addr} {vs : List Value} {n : Nat} {xs : List V} (h : (a, W.listOf vs.toArray n) ∈ news) (r : VsR ρ xs vs) : ObjR NM news ρ (a, none) (.list xs) := ⟨vs, n, rfl, h, r⟩
theorem newL (D : Dy NM h₀ L ρ σ m news s.heap) {a : Addr} (fr : a ∉ news.map (·.1)) {h' : Heap} {vs : List Value} {n : Nat} {xs : List V} (F' : Fr h₀ L h' m) (N' : News h₀ L h' ((a, W.listOf vs.toArray n) :: news)) (r : VsR ρ xs vs) (q : Post NM h₀ L m ρ news (σ ++ [.list xs]) (.ref σ.length) Q s) {tk : Nat} :
    Q (.ref a) { heap := h', gens := s.gens, drawn := s.drawn, toks := tk, os := s.os } := by
  have Z := D.alloc1 F' N' fr (.list xs) (listD (.head _) (r.mono _))
  exact q _ _ _ _ _ Z.1 Z.2 (.ref (D.last _))
theorem binV_ok (D : Dy NM h₀ L ρ σ m news s.heap) {a b : V} {r : V × H} {x y : Value} (ha : VR ρ a x) (hb : VR ρ b y) {op : Operator} (e : binV T op a b σ = some r) (q : Post NM h₀ L m ρ news r.2 r.1 Q s) :
    wpAny (model prog w) A (binaryOp op x y) Q E s := by
  cases a with
  | int i =>
    refine bsE e fun j hj e => mpE e fun z hz e => ?_
    cases e
    cases ha
    obtain ⟨t, rfl⟩ := int_of hb hj
    exact opI_ok hz fun tk tk' => q _ _ _ tk' _ D .refl (.int _ _)
  | ref i =>
    refine gdE e fun ho e => bsE e fun j hj e => bdE e fun xs h1 e => bdE e fun ys h2 e => gdE e fun hz e => ?_
    cases e
    cases op with
    | Add =>
      refine D.isList (listAt_ok h1) ha rfl fun a1 v1 n1 e1 p1 m1 r1 l1 => D.isList (listAt_ok h2) hb hj fun a2 v2 n2 e2 p2 m2 r2 l2 => ?_
      subst e1 e2
      refine add_arrays D.F D.N l1 l2 (fun h' F' N' => ?_) ?_
      · exact newL (vs := v1 ++ v2) (n := 0) D (fresh_size D) F' N' (r1.app r2) q
      · rw [List.size_toArray, List.size_toArray, r1.length, r2.length]
        exact size_ok hz (by decide)
    | _ => cases ho
  | opq j => cases ha
  | _ => cases e
noncomputable def IsOK (prog : Program) (w : World) (A : Around) (E : Value → Shared → Prop) (s : Shared) (x y : Value) (r : Bool) : Prop :=
  (∀ {Q : Value → Shared → Prop}, Q (.bool r) s → wpAny (model prog w) A (compareOp .Is x y) Q E s) ∧ (∀ {Q : Value → Shared → Prop}, Q (.bool !r) s → wpAny (model prog w) A (compareOp .IsNot x y) Q E s)
theorem isO {x y : Value} (hp : plainIs x y = true) (hne : (x == y) = false) : IsOK prog w A E s x y false := ⟨fun h => wpAny_is_other hp (beq_eq_false_iff_ne.mp hne) h, fun h => wpAny_isNot_other hp (beq_eq_false_iff_ne.mp hne) h⟩
theorem isRefVal (X : K.In h₀) (W : WfT K NM T) (D : Dy NM h₀ L ρ σ m news s.heap) {i : Nat} {b : Addr} {x : Value} (ha : VR ρ (.ref i) x) (hm : mem T.ob b = true) : IsOK prog w A E s x (.ref b) false :=
  obE (W.ob _ (mem_of hm)) fun ob hob hC => by
    cases ha with
    | ref hp =>
      rename_i p
      obtain ⟨⟨a', o'⟩, hm, e'⟩ := List.mem_map.mp (D.P.adr_led _ (adr_mem hp _ (fst_adr p)))
      have hn := D.N _ hm
      have e' : a' = p.1 := e'
      subst e'
      have hne : (p.1 == b) = false := by
        refine Bool.eq_false_iff.mpr fun c => ?_
        have z := hn.2.2
        rw [beq_iff_eq.mp c, X _ _ hob] at z
        cases z
      have key : ∀ {Q : Bool → Shared → Prop}, Q false s → wpAny (model prog w) A (isSame (.ref p.1) (.ref b)) Q E s := by
        intro Q hq
        unfold isSame
        simp only [hne, Bool.false_eq_true, if_false]
        refine wpAny_bind (wpAny_load hn.1 (wpAny_bind (wpAny_load ((X.keeps D.F.keep) _ _ hob) ?_)))
        obtain ⟨c2, d2, t2, s2⟩ := ob
        have hC : (refX c2).isSome = true := hC
        revert hC
        cases refX c2 with
        | none => exact fun h => by cases h
        | some C =>
          intro _
          obtain ⟨C, rfl⟩ := C
          obtain ⟨c1, d1, t1, s1⟩ := o'
          dsimp only
          split
          · rename_i c; cases c
          · exact wpAny_pure hq
      exact ⟨fun h => (wpAny_bind (key (wpAny_pure h)) : wpAny (model prog w) A (do return Value.bool (← isSame (.ref p.1) (.ref b))) _ E s), fun h => (wpAny_bind (key (wpAny_pure h)) : wpAny (model prog w) A (do return Value.bool (!(← isSame (.ref p.1) (.ref b)))) _ E s)⟩
theorem isV_ok (X : K.In h₀) (W : WfT K NM T) (D : Dy NM h₀ L ρ σ m news s.heap) {a b : V} {x y : Value} (ha : VR ρ a x) (hb : VR ρ b y) {r : Bool} (e : isV T a b = some r) : IsOK prog w A E s x y r := by
  cases b with
  | none =>
    cases hb
    cases ha with
    | none => cases e; exact ⟨fun h => wpAny_is_self rfl h, fun h => wpAny_isNot_self rfl h⟩
    | val => cases e; exact isO rfl rfl
    | ref => cases e; exact isO rfl rfl
    | int => cases e; exact isO rfl rfl
    | bool => cases e; exact isO rfl rfl
    | _ => cases e
  | val b =>
    cases hb
    cases a with
    | ref i => exact gdE e fun hm e => by cases e; exact isRefVal X W D ha hm
    | val p => cases ha; exact gdE e fun hm e => by cases e; rw [nbeq.mp hm]; exact ⟨fun h => wpAny_is_ref_self h, fun h => wpAny_isNot_ref_self h⟩
    | none => cases ha; cases e; exact isO rfl rfl
    | int => cases ha; cases e; exact isO rfl rfl
    | bool => cases ha; cases e; exact isO rfl rfl
    | _ => cases e
  | _ => cases e
end ops
end MP
end
section
open PySem PySem.W PyProof.Rows PySem.Calls PyProof.V PySem.Spec PySem.SeqAt
namespace MP
section ops
variable {prog : Program} {w : World} {A : Around} {E : Value → Shared → Prop} {s : Shared} {K : Frag} {h₀ : Heap} {L : Addr} {m : Str → Option Value} {news : Led} {ρ : List RA} {σ σ' : H} {NM : List Str} {T : Tab} {Q : Value → Shared → Prop}
theorem notIn_intMap {d : Addr} {f} {k : Int} {t : Tok} {Q : Value → Shared → Prop} (hm : s.heap.IntMap d f)
    (h : Q (.bool (!(f k).isSome)) { s with toks := s.toks + 1 }) : wpAny (model prog w) A (compareOp .NotIn (.int k t) (.ref d)) Q E s := by
  show wpAny _ _ (do return .bool (!(← contains (.ref d) (.int k t)))) Q E s
  refine wpAny_bind ?_
  unfold contains
  try with_reducible refine wpAny_holding ?_
  refine wpAny_bind (wpAny_specialOf hm.typeIs slot_dict_contains.lookup ?_)
  show wpAny _ _ (if (some (Value.builtin "dict.__contains__") == some Value.none) = true then _ else _) _ E s
  rw [if_neg (by rw [beq_builtin_none]; exact Bool.false_ne_true)]
  refine wpAny_bind (wpAny_callSpecialUnlessNone?_slot (name := Str.ofString "__contains__") hm.typeIs slot_dict_contains
    (wpAny_call_entry slot_dict_contains hm.typeIs entry_dict_contains ?_ (args_dict_contains _ _)))
  show wpAny _ _ (dictGet d (.int k t) >>= _) _ _ s
  refine wpAny_bind (wpAny_dictGet_int hm ?_)
  cases hf : f k with
  | some v =>
    rw [hf] at h
    show wpAny _ _ (ret (.bool true)) _ _ _
    exact wpAny_pure ⟨_, rfl, wpAny_truthy_bool (wpAny_pure h)⟩
  | none =>
    rw [hf] at h
    show wpAny _ _ (Builtin.Dict.pendingKey? d (.int k t) >>= _) _ _ _
    exact wpAny_bind (wpAny_pendingKey_int (wpAny_pure ⟨_, rfl, wpAny_truthy_bool (wpAny_pure h)⟩))
theorem eqStr2 {i j : Addr} {v1 v2 : List Value} {p1 p2 p3 p4 : Str} {Q : Value → Shared → Prop} (l1 : s.heap.IsList i v1.toArray) (l2 : s.heap.IsList j v2.toArray) (r1 : VsR ρ [.str p1, .str p2] v1) (r2 : VsR ρ [.str p3, .str p4] v2) (k1 : PyData.strOk p1 = true) (k2 : PyData.strOk p2 = true) (k3 : PyData.strOk p3 = true) (k4 : PyData.strOk p4 = true) (hu : A.units + 64 < cLine) (q : Q (.bool (p1 == p3 && p2 == p4)) s) : wpAny (model prog w) A (compareOp .Eq (.ref i) (.ref j)) Q E s := by
  have rd : ∀ {k : Addr} {v : List Value} {a b : Str}, s.heap.IsList k v.toArray → VsR ρ [.str a, .str b] v → ∃ as, Reads s.heap (.ref k) (.list [.str a, .str b]) as := by
    intro k v a b hl hr
    obtain ⟨o, ho, hc, n, hd⟩ := hl
    cases hr with
    | cons x1 hr =>
      cases hr with
      | cons x2 hr =>
        cases hr
        cases x1
        cases x2
        exact ⟨_, Reads.list ho hc hd (.cons (.str _ _) (.cons (.str _ _) .nil))⟩
  obtain ⟨as, ra⟩ := rd l1 r1
  obtain ⟨bs, rb⟩ := rd l2 r2
  refine eq_dataH_same ra rb ?_ ?_ hu ?_ ?_
  · simp [shaped, PyData.canLay0, PyData.canLayAll0, PyData.depth, PyData.depthAll, k1, k2, k3, k4]
  · simp [shaped, PyData.canLay0, PyData.canLayAll0, PyData.depth, PyData.depthAll, k1, k2, k3, k4]
  · simp [noMix, noMixAll]
  · have : PySem.Spec.same (.list [.str p1, .str p2]) (.list [.str p3, .str p4]) = (p1 == p3 && p2 == p4) := by
      simp [PySem.Spec.same, PySem.Spec.sameAll]
    rw [this]
    exact q
theorem cmpI_ok {op : CmpOp} {i j : Int} {t u : Tok} {z : Bool} (e : cmpI op i j = some z) (q : ∀ tk, Q (.bool z) { heap := s.heap, gens := s.gens, drawn := s.drawn, toks := tk, os := s.os }) : wpAny (model prog w) A (compareOp op (.int i t) (.int j u)) Q E s := by
  cases op with
  | Eq => cases e; exact eq_int (q _)
  | NotEq => cases e; exact ne_int (q _)
  | Lt => cases e; exact lt_int (q _)
  | LtE => cases e; exact le_int (q _)
  | Gt => cases e; exact gt_int (q _)
  | GtE => cases e; exact ge_int (q _)
  | _ => cases e
theorem str_of {v : V} {x : Value} (h : VR ρ v x) {i : Str} (e : v = .str i) : ∃ t, x = .str i t := by
  subst e; cases h; exact ⟨_, rfl⟩
theorem str2_ok {xs : List V} {p : Str × Str} (e : str2 xs = some p) : xs = [.str p.1, .str p.2] :=
  bsE e fun q hq e => bsE e fun a ha e => msE e fun b hb e => by
    have e : (a, b) = p := e
    have ha : q.1 = .str a := ha
    have hb : q.2 = .str b := hb
    rw [← e, ← ha, ← hb]
    exact hq
theorem eqL_ok (hu : A.units + 64 < cLine) {i j : Addr} {xs ys : List V} {v1 v2 : List Value} {z : Bool} (l1 : s.heap.IsList i v1.toArray) (l2 : s.heap.IsList j v2.toArray) (r1 : VsR ρ xs v1) (r2 : VsR ρ ys v2) (e : eqL xs ys = some z) (q : Q (.bool z) s) : wpAny (model prog w) A (compareOp .Eq (.ref i) (.ref j)) Q E s :=
  bdE e fun p hp e => bdE e fun q' hq e => gdE e fun hk e => anE hk fun hk k4 => anE hk fun hk k3 => anE hk fun k1 k2 => by
    cases e
    rw [str2_ok hp] at r1
    rw [str2_ok hq] at r2
    exact eqStr2 l1 l2 r1 r2 k1 k2 k3 k4 hu q
theorem neL_ok (hu : A.units < cLine) {i j : Addr} {xs ys : List V} {v1 v2 : List Value} {z : Bool} (l1 : s.heap.IsList i v1.toArray) (l2 : s.heap.IsList j v2.toArray) (r1 : VsR ρ xs v1) (r2 : VsR ρ ys v2) (e : neL xs ys = some z) (q : Q (.bool z) s) : wpAny (model prog w) A (compareOp .NotEq (.ref i) (.ref j)) Q E s :=
  gdE e fun hy e => gdE e fun hz e => by
    cases e
    cases r2 with
    | cons _ _ => cases hy
    | nil =>
      cases r1 with
      | nil => exact (SeqAt.RcNeAt.lists (e := fun _ => true) l1 l2 rfl hu fun j h1 _ => absurd h1 (Nat.not_lt_zero _)) prog w E Q q
      | cons z zs => exact (SeqAt.RcNeAt.lists_lengths l1 l2 (by simp) hu) prog w E Q q
theorem cmpO_ok (hu64 : A.units + 64 < cLine) (D : Dy NM h₀ L ρ σ m news s.heap) {a b : V} {r : Bool} {x y : Value} (ha : VR ρ a x) (hb : VR ρ b y) {op : CmpOp} (e : cmpO T op a b σ = some r) (q : ∀ tk, Q (.bool r) { heap := s.heap, gens := s.gens, drawn := s.drawn, toks := tk, os := s.os }) :
    wpAny (model prog w) A (compareOp op x y) Q E s := by
  cases a with
  | int i =>
    cases ha
    cases hb with
    | int j t => exact cmpI_ok e q
    | _ => cases e
  | str i =>
    refine bsE e fun j hj e => gdE e fun ho e => ?_
    cases e
    cases ha
    obtain ⟨t, rfl⟩ := str_of hb hj
    cases op with
    | NotEq => exact PyProof.Rows.ne_str (q _)
    | _ => cases ho
  | ref i =>
    refine bsE e fun j hj e => bdE e fun xs h1 e => bdE e fun ys h2 e => D.isList (listAt_ok h1) ha rfl fun a1 v1 n1 e1 p1 m1 r1 l1 => D.isList (listAt_ok h2) hb hj fun a2 v2 n2 e2 p2 m2 r2 l2 => ?_
    subst e1 e2
    cases op with
    | Eq => exact eqL_ok hu64 l1 l2 r1 r2 e (q s.toks)
    | NotEq => exact neL_ok (by omega) l1 l2 r1 r2 e (q s.toks)
    | _ => cases e
  | opq j => cases ha
  | _ => cases e
noncomputable def PostC (r : Bool) (Q : Value → Shared → Prop) (s : Shared) : Prop := ∀ tk, Q (.bool r) { heap := s.heap, gens := s.gens, drawn := s.drawn, toks := tk, os := s.os }
theorem hasV_ok (D : Dy NM h₀ L ρ σ m news s.heap) {a b : V} {x y : Value} (ha : VR ρ a x) (hb : VR ρ b y) {r : Bool} (e : hasV a b σ = some r) :
    (PostC r Q s → wpAny (model prog w) A (compareOp .In x y) Q E s) ∧ (PostC (!r) Q s → wpAny (model prog w) A (compareOp .NotIn x y) Q E s) :=
  bsE e fun k hk e => bsE e fun i hi e => mpE e fun es he e => D.isDict (dictAt_ok he) hb hi fun a1 o f e1 p1 m1 d2 d3 d4 d5 d6 => by
    obtain ⟨t, rfl⟩ := int_of ha hk
    subst e e1
    refine ⟨fun q => wpAny_in_intMap d5 ?_, fun q => notIn_intMap d5 ?_⟩
    · rw [d2.isSome]; exact q _
    · rw [d2.isSome]; exact q _
theorem cmpB_ok (X : K.In h₀) (W : WfT K NM T) (hu64 : A.units + 64 < cLine) (D : Dy NM h₀ L ρ σ m news s.heap) {a b : V} {r : Bool} {x y : Value} (ha : VR ρ a x) (hb : VR ρ b y) {op : CmpOp} (e : cmpB T op a b σ = some r) (q : PostC r Q s) :
    wpAny (model prog w) A (compareOp op x y) Q E s := by
  cases op with
  | Is => exact (isV_ok X W D ha hb e).1 (q s.toks)
  | IsNot => exact mpE e fun t ht e => by subst e; exact (isV_ok X W D ha hb ht).2 (q s.toks)
  | In => exact (hasV_ok D ha hb e).1 q
  | NotIn => exact mpE e fun t ht e => by subst e; exact (hasV_ok D ha hb ht).2 q
  | _ => exact cmpO_ok hu64 D ha hb e q
theorem cmpV_ok (X : K.In h₀) (W : WfT K NM T) (hu64 : A.units + 64 < cLine) (D : Dy NM h₀ L ρ σ m news s.heap) {a b r : V} {x y : Value} (ha : VR ρ a x) (hb : VR ρ b y) {op : CmpOp} (e : cmpV T op a b σ = some r) (q : Post NM h₀ L m ρ news σ r Q s) :
    wpAny (model prog w) A (compareOp op x y) Q E s :=
  mpE e fun t ht e => cmpB_ok X W hu64 D ha hb ht fun tk => by subst e; exact q.now D (.bool _)
theorem seqAt_ok {k : Int} {xs : List V} {r : V} (e : seqAt k xs = some r) {P : Prop} (h : ∀ n : Nat, k = n → n < 4611686018427387904 → at? xs n = some r → P) : P :=
  gdE e fun hk e => by
    obtain ⟨h1, h2⟩ := of_decide_eq_true hk
    obtain ⟨n, rfl⟩ := Int.eq_ofNat_of_zero_le h1
    exact h n rfl (by omega) e
theorem tup_at {t : Addr} {v1 : List Value} {xs : List V} {n : Nat} {r : V} {tk : Tok} (l1 : IsTup s.heap t v1.toArray) (r1 : VsR ρ xs v1) (hn : n < 4611686018427387904) (e : at? xs n = some r) (D : Dy NM h₀ L ρ σ m news s.heap) (q : Post NM h₀ L m ρ news σ r Q s) {value slice : PySem.Expr}
    (hs : subscripted slice false (.ref t) (.int n tk) = operate [.ref t, .int n tk] (getItem (.ref t) (.int n tk))) : wpAny (model prog w) A (subscriptTail value slice (.ref t) (.int n tk)) Q E s := by
  obtain ⟨z, hz, hr⟩ := r1.at e
  have hlt : n < v1.length := (List.getElem?_eq_some_iff.mp hz).1
  refine item_tupleT l1 (by omega) (by omega) (j := n) ?_ hz (q.now (tk := s.toks) D hr) hs
  unfold seqIndex?
  have h0 : ¬ ((n : Int) < 0) := by omega
  have h1 : (n : Int) < (v1.length : Int) := by omega
  simp [h0, h1]
  try omega
theorem subV_ok (X : K.In h₀) (W : WfT K NM T) (D : Dy NM h₀ L ρ σ m news s.heap) {a b r : V} {x y : Value} (ha : VR ρ a x) (hb : VR ρ b y) (e : subV T a b σ = some r) (q : Post NM h₀ L m ρ news σ r Q s) {value slice : PySem.Expr}
    (hs : ∀ i t, y = .int i t → subscripted slice false x y = operate [x, y] (getItem x y)) : wpAny (model prog w) A (subscriptTail value slice x y) Q E s :=
  bsE e fun k hk e => by
    obtain ⟨t, rfl⟩ := int_of hb hk
    have hs := hs _ _ rfl
    cases a with
    | val av =>
      cases ha
      refine bdE e fun xs h1 e => seqAt_ok e fun n hn hlt e9 => ?_
      subst hn
      obtain ⟨v1, l1, r1⟩ := W.tup (X.keeps D.F.keep) h1 ρ
      exact tup_at l1 r1 hlt e9 D q hs
    | ref i =>
      refine bdE e fun o ho e => ?_
      cases o with
      | list xs =>
        refine seqAt_ok e fun n hn hlt e9 => D.isList ho ha rfl fun a1 v1 n1 e1 p1 m1 r1 l1 => ?_
        subst hn e1
        obtain ⟨z, hz, hr⟩ := r1.at e9
        exact tail_any l1.typeIs slot_list_getitem.lookup (wpAny_getItem_list l1 (by omega) (by omega) (by simpa using hz) (q.now (tk := s.toks) D hr)) hs
      | tup xs =>
        refine seqAt_ok e fun n hn hlt e9 => D.isTup ho ha rfl fun a1 v1 e1 p1 r1 l1 => ?_
        subst hn e1
        exact tup_at l1 r1 hlt e9 D q hs
      | dict es =>
        refine D.isDict ho ha rfl fun a1 o f e1 p1 m1 d2 d3 d4 d5 d6 => ?_
        subst e1
        have z := d2 k
        rw [show lkI es k = some r from e] at z
        obtain ⟨u, hu, hr⟩ := z
        exact tail_any d5.typeIs slot_dict_getitem.lookup (wpAny_getItem_intMap d5 hu (q.now D hr)) hs
      | _ => cases e
    | _ => cases e
end ops
end MP
end
section
open PySem PySem.W PyProof.Rows PySem.Calls
namespace MP
section ops
variable {prog : Program} {w : World} {A : Around} {E : Value → Shared → Prop} {s : Shared} {K : Frag} {h₀ : Heap} {L : Addr} {m : Str → Option Value} {news : Led} {ρ : List RA} {σ σ' : H} {NM : List Str} {T : Tab} {Q : Value → Shared → Prop}
theorem setS_ok (D : Dy NM h₀ L ρ σ m news s.heap) {o i v : V} {x y z : Value} (ho : VR ρ o x) (hi : VR ρ i y) (hv : VR ρ v z) (e : setS T o i v σ = some σ') {Q : Unit → Shared → Prop} (q : PostU NM h₀ L m ρ news σ' Q s) :
    wpAny (model prog w) A (setItem x y z) Q E s :=
  bsE e fun n hn e => bsE e fun k hk e => gdE e fun _ e => bdE e fun ob hob e => mpE e fun o' e8 he' => by
    obtain ⟨t, rfl⟩ := int_of hi hk
    subst he'
    cases ob with
    | list xs =>
      refine gdE e8 fun hc e => D.isList hob ho hn fun a1 v1 n1 e1 p1 m1 r1 l1 => ?_
      cases e
      subst e1
      obtain ⟨h1, h2, h3⟩ : 0 ≤ k ∧ k < 4611686018427387904 ∧ k.toNat < xs.length := of_decide_eq_true hc
      have hz : (k : Int) < v1.toArray.size := by rw [List.size_toArray, r1.length]; omega
      refine ki_setAt (D.N _ m1).1 h1 (by omega) hz ?_
      have hget := PySem.IsL.update (D.N _ m1).1 (fun x => x.setIfInBounds k.toNat z)
      have he : v1.toArray.setIfInBounds k.toNat z = (v1.set k.toNat z).toArray := by simp
      simp only [he] at hget ⊢
      have Z := D.change p1 (by simp [adr]) m1 (Heap.SameBut.update ..) hget (x := .list (setAt xs k.toNat v)) (listD (upd_self m1) (r1.setAt hv))
      exact q _ _ _ _ Z.1 Z.2
    | dict es =>
      refine gdE e8 fun hz e => D.isDict hob ho hn fun a1 o f e1 p1 m1 d2 d3 d4 d5 d6 => ?_
      cases e
      subst e1
      refine wpAny_setItem_intMap_le d5 d6 (Nat.le_trans (ble_le hz) (by decide)) fun h' M Le' SB => ?_
      obtain ⟨o', es', ep', g1, g2, g3, g4, g5⟩ := M
      have Z := D.change p1 (by simp [adr]) m1 SB g1 (x := .dict ((k, v) :: es)) ⟨o', _, rfl, upd_self m1, ⟨g2, es', ep', g3, g4, Le' _ _ _ g1 g3, g5⟩, fun j => ?_, d3, fun c => by cases c⟩
      · exact q _ _ _ _ Z.1 Z.2
      · have dj := d2 j
        unfold lkI
        by_cases hj : k = j
        · subst hj
          simp only [if_true]
          exact ⟨z, rfl, hv⟩
        · have hj' : ¬ j = k := fun c => hj c.symm
          simp only [if_neg hj, if_neg hj']
          exact dj
    | _ => cases e8
theorem newList_ok (D : Dy NM h₀ L ρ σ m news s.heap) {vs : List V} {xs : List Value} (hv : VsR ρ vs xs) (hz : Nat.ble vs.length 1000 = true) (q : Post NM h₀ L m ρ news (σ ++ [.list vs]) (.ref σ.length) Q s) :
    wpAny (model prog w) A (newList xs) Q E s :=
  newList_K D.F D.N (fun l h' F' N' lt => newL D (fresh_lt lt) F' N' hv q) (by rw [hv.length]; exact size_ok hz (by decide))
theorem newTup_ok (D : Dy NM h₀ L ρ σ m news s.heap) {vs : List V} {xs : List Value} (hv : VsR ρ vs xs) (hz : Nat.ble vs.length 1000 = true) (q : Post NM h₀ L m ρ news (σ ++ [.tup vs]) (.ref σ.length) Q s) :
    wpAny (model prog w) A (newTuple xs) Q E s :=
  newTuple_N D.F D.N (fun h' F' N' => by
    have Z := D.alloc1 F' N' (fresh_size D) (.tup _) ⟨xs, rfl, .head _, hv.mono _⟩
    exact q _ _ _ _ _ Z.1 Z.2 (.ref (D.last _))) (by rw [hv.length]; exact size_ok hz (by decide))
theorem dict0_ok (hl : h₀.NoLimit) (D : Dy NM h₀ L ρ σ m news s.heap) {env : Env} {pos : Pos} (q : Post NM h₀ L m ρ news (σ ++ [.dict []]) (.ref σ.length) Q s) :
    wpAny (model prog w) A (eval (.Dict [] [] pos) env) Q E s := by
  refine wpAny_Dict_empty ?_
  have Z := D.alloc1 (D.F.push _) (D.N.push D.F { cls := .type "dict", data := .dict #[] }) (fresh_size D) (.dict []) ⟨_, fun _ => none, rfl, .head _, ⟨rfl, #[], 0, rfl, (fun e he => by cases he with | mk h => cases h), Nat.le_refl _, fun k => rfl⟩, fun k => rfl, ?_, fun _ => rfl⟩
  · exact q _ _ _ _ _ Z.1 Z.2 (.ref (D.last _))
  · exact D.F.notModules (modules_low hl)
theorem lit_of {v : V} {k : Int} (h : isLit k v = true) {ρ : List RA} {x : Value} (hv : VR ρ v x) : ∃ t, x = .int k t := by
  cases v with
  | int i => cases hv; exact ⟨_, by rw [← show i = k from eq_ok h]⟩
  | _ => cases h
theorem fromV_ok (D : Dy NM h₀ L ρ σ m news s.heap) {o i : V} {r : V × H} {x y : Value} (ho : VR ρ o x) (hi : VR ρ i y) (e : fromV o i σ = some r) (q : Post NM h₀ L m ρ news r.2 r.1 Q s) {value slice : PySem.Expr}
    (hs : ∀ a b, subscripted slice false (.ref a) (.ref b) = operate [.ref b, .ref a] (getItem (.ref a) (.ref b))) (ht : ∀ a r, letTemporaryGo value (.ref a) r = pure ()) :
    wpAny (model prog w) A (subscriptTail value slice x (.ref s.heap.objs.size)) Q E { s with heap := s.heap.push { cls := .type "slice", data := .fields #[y, .none, .none] } } :=
  bsE e fun n hn e => gdE e fun hl e => bdE e fun xs h1 e => gdE e fun hz e => D.isList (listAt_ok h1) ho hn fun a1 v1 n1 e1 p1 m1 r1 l1 => by
    cases e
    subst e1
    obtain ⟨t, rfl⟩ := lit_of hl hi
    refine kms_slice_lit (zs := v1.drop 1) D.F D.N l1 (.int 1 t) .none ?_ (fun B h' F' N' lt => ?_) (hs _ _) (ht _) (by rw [List.size_toArray, r1.length]; exact size_ok hz (by decide))
    · unfold kms_pick kms_lo kms_hi
      simp only
      cases v1 with
      | nil => rfl
      | cons z zs => simp
    · have rd : VsR ρ (xs.drop 1) (v1.drop 1) := by cases r1 with | nil => exact .nil | cons _ k => exact k
      exact newL D (fresh_lt lt) F' N' rd q
theorem kl_last_some : ∀ {l : List V} {v : V} {ρ : List RA} {xs : List Value}, VsR ρ l xs → l.getLast? = some v → ∃ p y, kl_last xs = some (p, y) ∧ VsR ρ l.dropLast p ∧ VR ρ v y := by
  intro l v ρ xs h
  induction h with
  | nil => intro e; cases e
  | cons a r ih =>
    rename_i v0 x0 vs xs
    intro e
    cases r with
    | nil => cases e; exact ⟨[], x0, rfl, .nil, a⟩
    | cons b r' =>
      rw [List.getLast?_cons_cons] at e
      obtain ⟨p, y, h1, h2, h3⟩ := ih e
      refine ⟨x0 :: p, y, ?_, ?_, h3⟩
      · unfold kl_last
        rw [h1]
      · rw [List.dropLast_cons_of_ne_nil (by simp)]
        exact .cons a h2
theorem reprL1 (D : Dy NM h₀ L ρ σ m news s.heap) {a : Addr} {vs : List Value} {v : V} {Q : Value → Shared → Prop} {t : Str} (hl : s.heap.IsList a vs.toArray) (hr : VsR ρ [v] vs) (d : PyData) (hd : ∀ {x : Value}, VR ρ v x → Reads s.heap x d []) (hs : d.showable = true) (hn : d.hasDict = false) (hdep : d.depth = 0) (hg : A.guards = some []) (hu : A.units + 64 < cLine) (ht : (PyData.list [d]).shown = t) (hz : t.length ≤ sizeLine)
    (q : Post NM h₀ L m ρ news σ (.str t) Q s) : wpAny (model prog w) A (call (.builtin "repr") [.ref a]) Q E s := by
  obtain ⟨o, ho, hc, n, hdt⟩ := hl
  have rd : Reads s.heap (.ref a) (.list [d]) (a :: ([] ++ [])) := by
    cases hr with
    | cons x1 hr =>
      cases hr
      exact Reads.list ho hc hdt (.cons (hd x1) .nil)
  refine repr_of_reads' rd ?_ ?_ hg ?_ (fun _ _ e => e) (fun h' u tk hk => ?_) (by rw [ht]; exact hz)
  · simp [PyData.showable, PyData.showableAll, hs]
  · intro hh
    simp [PyData.hasDict, PyData.hasDictAll, hn] at hh
  · simp [PyData.depth, PyData.depthAll, hdep]; omega
  · rw [ht]
    exact q _ _ _ _ _ (D.same (D.F.keeps hk) (fun p hp => ⟨hk _ _ (D.N p hp).1, (D.N p hp).2⟩)) .refl (.str _ _)
theorem VsR.one {vs : List V} {xs : List Value} {v : V} (h : VsR ρ vs xs) (e : vs = [v]) : ∃ x, xs = [x] ∧ VR ρ v x := by
  subst e
  cases h with | cons a r => cases r; exact ⟨_, rfl, a⟩
theorem VsR.two {vs : List V} {xs : List Value} {p : V × V} (h : VsR ρ vs xs) (e : vs = [p.1, p.2]) : ∃ x y, xs = [x, y] ∧ VR ρ p.1 x ∧ VR ρ p.2 y := by
  subst e
  cases h with | cons a r => cases r with | cons b r => cases r; exact ⟨_, _, rfl, a, b⟩
noncomputable def BiOK (prog : Program) (w : World) (A : Around) (NM : List Str) (h₀ : Heap) (L : Addr) (T : Tab) (b : Bi) : Prop := ∀ {ρ σ m news} {s : Shared} {Q : Value → Shared → Prop} {E : Value → Shared → Prop} {as : List V} {xs : List Value} {r : V × H}, Dy NM h₀ L ρ σ m news s.heap → VsR ρ as xs → biV T b as σ = some r → Post NM h₀ L m ρ news r.2 r.1 Q s → wpAny (model prog w) A (call (.builtin (biId b)) xs) Q E s
theorem len_ok (X : K.In h₀) (W : WfT K NM T) : BiOK prog w A NM h₀ L T .len := fun {ρ σ m news s Q E as xs r} D ha e q =>
  bsE e fun v hv e => bdE e fun us hu e => gdE e fun hz e => by
    cases e
    obtain ⟨x, rfl, hx⟩ := ha.one hv
    have hz := ble_le hz
    cases v with
    | ref i =>
      refine D.isList (listAt_ok hu) hx rfl fun a1 v1 n1 e1 p1 m1 r1 l1 => ?_
      subst e1
      refine len_list l1 ?_ ?_
      · rw [List.size_toArray, r1.length]; omega
      · rw [List.size_toArray, r1.length]; exact q.now D (.int _ _)
    | val a =>
      cases hx
      obtain ⟨v1, l1, r1⟩ := W.tup (X.keeps D.F.keep) hu ρ
      refine PyProof.Rows.len_tuple l1 ?_ ?_
      · rw [List.size_toArray, r1.length]; omega
      · rw [List.size_toArray, r1.length]; exact q.now D (.int _ _)
    | _ => cases hu
theorem isinst_ok (X : K.In h₀) (W : WfT K NM T) : BiOK prog w A NM h₀ L T .isinst := fun {ρ σ m news s Q E as xs r} D ha e q =>
  bsE e fun p hp e => mpE e fun t ht e7 => by
    obtain ⟨x, y, rfl, hx, hy⟩ := ha.two hp
    obtain ⟨v, c⟩ := p
    subst e7
    have gl := W.gl
    refine anE gl fun g1 g2 => ?_
    have g1 := eq_ok g1
    have g2 := eq_ok g2
    cases c with
    | val C =>
      refine bsE ht fun i hi e => bdE e fun o ho e => ?_
      cases hy
      cases o with
      | inst D' fs =>
        refine bdE e fun cx hcx e => inst_of D ho rfl hx hi fun a1 d es n e1 p1 m1 m2 r1 I => ?_
        have c := W.of hcx
        subst e1
        refine cdE e (fun hm e => ?_) fun _ e => gdE e fun hm e => ?_
        · cases e
          exact isi_call (X.keeps D.F.keep) (fun M => I.type) (c.mro _ (mem_of hm)) (by intro z; cases z) (q.now (tk := s.toks) D (.bool _))
        · cases e
          exact kin_callC (X.keeps D.F.keep) I (c.non _ (mem_of hm)) c.pg c.dict c.fc g1 g2 c.ob (q.now D (.bool _))
      | _ => cases e
    | tyBool =>
      cases hy
      cases v with
      | bool b => cases ht; cases hx; exact IsiPair.bool_bool (q.now (tk := s.toks) D (.bool _))
      | int b => cases ht; cases hx; exact IsiPair.int_bool (q.now D (.bool _))
      | ref i =>
        refine bdE ht fun o ho e => ?_
        cases o with
        | inst D' fs =>
          refine mpE e fun cx hcx e => inst_of D ho rfl hx rfl fun a1 d es n e1 p1 m1 m2 r1 I => ?_
          have c := W.of hcx
          subst e1 e
          exact kin_callT (X.keeps D.F.keep) I c.nt PySem.F.isi_meta_bool c.pg c.dict c.fc g1 g2 c.ob (q.now D (.bool _))
        | _ => cases e
      | _ => cases ht
    | _ => cases ht
theorem append_ok : BiOK prog w A NM h₀ L T .append := fun {ρ σ m news s Q E as xs r} D ha e q =>
  bsE e fun p hp e => bsE e fun i hi e => gdE e fun _ e => bdE e fun us hu e => gdE e fun hz e => by
    obtain ⟨x, y, rfl, hx, hy⟩ := ha.two hp
    cases e
    refine D.isList (listAt_ok hu) hx hi fun a1 v1 n1 e1 p1 m1 r1 l1 => ?_
    subst e1
    refine append_K D.F D.N (upd_Upd m1 D.nd) (fun h' F' N' => ?_) (by rw [List.size_toArray, r1.length]; exact size_ok hz (by decide))
    have he : v1.toArray.push y = (v1 ++ [y]).toArray := by simp
    rw [he] at N'
    have Z := D.change' (x := .list _) p1 (by simp [adr]) m1 F' N' (listD (upd_self m1) (r1.app (.cons hy .nil)))
    exact q _ _ _ _ _ Z.1 Z.2 .none
theorem popE_ok {v : V} {x : Value} (D : Dy NM h₀ L ρ σ m news s.heap) (hx : VR ρ v x) {r : V × H} (e : popV T popE v σ = some r) (q : Post NM h₀ L m ρ news r.2 r.1 Q s) : wpAny (model prog w) A (call (.builtin "list.pop") [x]) Q E s :=
  bsE e fun i hi e => gdE e fun _ e => bdE e fun us hu e => mpE e fun z hz0 e7 => gdE hz0 fun hz h => mpE h fun v' hv e' => by
    subst e7 e'
    refine D.isList (listAt_ok hu) hx hi fun a1 v1 n1 e1 p1 m1 r1 l1 => ?_
    subst e1
    obtain ⟨p, y, e1, e2, e3⟩ := kl_last_some r1 hv
    refine kl_pop D.F D.N (p := p) (y := y) (by simpa using e1) (upd_Upd m1 D.nd) (by simp only [List.toList_toArray]; rw [r1.length]; exact size_ok hz (by decide)) fun h' F' N' => ?_
    have Z := D.change' (x := .list _) p1 (by simp [adr]) m1 F' N' (listD (upd_self m1) e2)
    exact q _ _ _ _ _ Z.1 Z.2 e3
theorem pop0_ok {v : V} {x : Value} {t : Tok} (D : Dy NM h₀ L ρ σ m news s.heap) (hx : VR ρ v x) {r : V × H} (e : popV T pop0 v σ = some r) (q : Post NM h₀ L m ρ news r.2 r.1 Q s) : wpAny (model prog w) A (call (.builtin "list.pop") [x, .int 0 t]) Q E s :=
  bsE e fun i hi e => gdE e fun _ e => bdE e fun us hu e => mpE e fun z hz0 e => by
    cases us with
    | nil => cases hz0
    | cons u us =>
      refine gdE hz0 fun hz h => D.isList (listAt_ok hu) hx hi fun a1 v1 n1 e1 p1 m1 r1 l1 => ?_
      cases h
      subst e e1
      cases r1 with
      | cons r0 rr =>
        rename_i y0 ys
        refine kl_popAt D.F D.N (k := 0) (p := []) (q := ys) (y := y0) (by decide) ?_ rfl (upd_Upd m1 D.nd) ?_ fun h' F' N' => ?_
        · unfold seqIndex?
          simp
        · simp only [List.toList_toArray, List.length_cons]
          rw [rr.length]
          exact Nat.le_trans (Nat.succ_le_succ (ble_le hz)) (by decide)
        · have Z := D.change' (x := .list _) p1 (by simp [adr]) m1 F' N' (listD (upd_self m1) rr)
          exact q _ _ _ _ _ Z.1 Z.2 r0
theorem pop_ok : BiOK prog w A NM h₀ L T .pop := fun {ρ σ m news s Q E as xs r} D ha e q => by
  cases ha with
  | nil => cases e
  | cons hx hr =>
    cases hr with
    | nil => exact popE_ok D hx e q
    | cons hy hr =>
      cases hr with
      | nil =>
        refine gdE e fun hl e => ?_
        obtain ⟨t, rfl⟩ := lit_of hl hy
        exact pop0_ok D hx e q
      | cons _ _ => cases e
theorem abs_ok : BiOK prog w A NM h₀ L T .absB := fun {ρ σ m news s Q E as xs r} D ha e q =>
  bsE e fun v hv e => msE e fun i hi e => by
    obtain ⟨x, rfl, hx⟩ := ha.one hv
    obtain ⟨t, rfl⟩ := int_of hx hi
    subst e
    exact call_abs_int fun u tk => q.now (tk := tk) D (.int _ _)
theorem repI_ok {i : Int} {a b c t : Str} (e : repI i a b c = some t) {P : Int → Str → Prop} (h6 : P 6 a) (h7 : P 7 b) (h9 : P 9 c) : P i t := by
  unfold repI at e
  by_cases h : i = 6
  · rw [if_pos h] at e; cases e; rw [h]; exact h6
  rw [if_neg h] at e
  by_cases h : i = 7
  · rw [if_pos h] at e; cases e; rw [h]; exact h7
  rw [if_neg h] at e
  by_cases h : i = 9
  · rw [if_pos h] at e; cases e; rw [h]; exact h9
  rw [if_neg h] at e; cases e
theorem repr_ok (hg : A.guards = some []) (hu64 : A.units + 64 < cLine) : BiOK prog w A NM h₀ L T .reprB := fun {ρ σ m news s Q E as xs r} D ha e q =>
  bsE e fun v hv e => mpE e fun t ht e => by
    obtain ⟨x, rfl, hx⟩ := ha.one hv
    subst e
    cases v with
    | bool b =>
      refine gdE ht fun hb e => ?_
      cases e
      cases b with
      | false => cases hx; exact PySem.P.repr_of_bool (q.now D (.str _ _))
      | true => cases hb
    | int i =>
      cases hx
      exact repI_ok (P := fun i t => ∀ tk, Post NM h₀ L m ρ news σ (.str t) Q s → wpAny (model prog w) A (call (.builtin "repr") [.int i tk]) Q E s) ht (fun _ q => PySem.P.repr_of_int (by decide) (q.now D (.str _ _))) (fun _ q => PySem.P.repr_of_int (by decide) (q.now D (.str _ _))) (fun _ q => PySem.P.repr_of_int (by decide) (q.now D (.str _ _))) _ q
    | ref i =>
      refine bdE ht fun us hu e => bsE e fun u he e => D.isList (listAt_ok hu) hx rfl fun a1 v1 n1 e1 p1 m1 r1 l1 => ?_
      subst e1
      rw [he] at r1
      cases u with
      | bool b =>
        refine gdE e fun hb e => ?_
        cases e
        cases b with
        | false => exact reprL1 (t := "[False]") D l1 r1 (.bool false) (fun hr => by cases hr; exact .bool _) rfl rfl rfl hg hu64 (by decide +kernel) (by decide) q
        | true => cases hb
      | int j =>
        exact repI_ok (P := fun i t => VsR ρ [.int i] v1 → Post NM h₀ L m ρ news σ (.str t) Q s → wpAny (model prog w) A (call (.builtin "repr") [.ref a1]) Q E s) e
          (fun r1 q => reprL1 (t := "[6]") D l1 r1 (.int 6) (fun hr => by cases hr; exact .int _ _) rfl rfl rfl hg hu64 (by decide +kernel) (by decide) q)
          (fun r1 q => reprL1 (t := "[7]") D l1 r1 (.int 7) (fun hr => by cases hr; exact .int _ _) rfl rfl rfl hg hu64 (by decide +kernel) (by decide) q)
          (fun r1 q => reprL1 (t := "[9]") D l1 r1 (.int 9) (fun hr => by cases hr; exact .int _ _) rfl rfl rfl hg hu64 (by decide +kernel) (by decide) q) r1 q
      | _ => cases e
    | _ => cases ht
theorem isE_ok {o : O} (h : isE o = true) : o = .dict [] := by
  cases o with
  | dict es => cases es with | nil => rfl | cons _ _ => cases h
  | _ => cases h
theorem sorted_ok (hh : A.handled = none) : BiOK prog w A NM h₀ L T .sortedB := fun {ρ σ m news s Q E as xs r} D ha e q =>
  bsE e fun v hv e => bsE e fun i hi e => bdE e fun o ho e => gdE e fun he e => by
    obtain ⟨x, rfl, hx⟩ := ha.one hv
    cases e
    rw [isE_ok he] at ho
    refine D.isDict ho hx hi fun a1 o f e1 p1 m1 d2 d3 d4 d5 d6 => ?_
    have ho := d4 rfl
    subst ho e1
    have hk : Obj.IsDictOf (intKind prog w) { cls := .type "dict", data := .dict #[] } [] := ⟨#[], 0, ⟨rfl, rfl, rfl⟩, rfl, (fun e he => by cases he with | mk h => cases h), .nil, .nil⟩
    have Ta : TabAt (intKind prog w) PyData.int s.heap a1 [] := TabAt.ofNews D.N m1 d3 hk .nil
    refine kdu_sortedD (fun _ _ => kdl_flat_int) hh D.F D.N Ta (by decide) fun B h' tk F' N' lt => ?_
    have hB := fresh_lt lt
    refine ksk_lsort (vs := []) (ns := []) (news' := fun o => (B, o) :: news) F' N' (fun o => .head fun q hq c => hB (List.mem_map.mpr ⟨q, hq, c⟩)) rfl .nil (by decide) fun vs' ns' c h'' F'' N'' hI hl _ _ _ => ?_
    have : vs' = [] := by
      have := hI.length
      rw [hl] at this
      exact List.length_eq_zero_iff.mp (by simpa using this)
    subst this
    exact newL D hB F'' N'' .nil q
theorem biV_ok (X : K.In h₀) (W : WfT K NM T) (hh : A.handled = none) (hg : A.guards = some []) (hu64 : A.units + 64 < cLine) (b : Bi) : BiOK prog w A NM h₀ L T b := by
  cases b with
  | len => exact len_ok X W
  | isinst => exact isinst_ok X W
  | append => exact append_ok
  | pop => exact pop_ok
  | absB => exact abs_ok
  | reprB => exact repr_ok hg hu64
  | sortedB => exact sorted_ok hh
end ops
noncomputable abbrev Nms := List (Str × NameKind)
structure Vw (e : PySem.Expr) where
  name : Option {p : Str × Pos // e = .Name p.1 p.2} := none
  attr : Option {p : PySem.Expr × Str × Pos // e = .Attribute p.1 p.2.1 p.2.2} := none
  call : Option {p : PySem.Expr × List PySem.Expr × Pos // e = .Call p.1 p.2.1 [] p.2.2} := none
  bin : Option {p : PySem.Expr × Operator × PySem.Expr × Pos // e = .BinOp p.1 p.2.1 p.2.2.1 p.2.2.2} := none
  cmp : Option {p : PySem.Expr × List CmpOp × List PySem.Expr × Pos // e = .Compare p.1 p.2.1 p.2.2.1 p.2.2.2} := none
  bool : Option {p : BoolOp × List PySem.Expr × Pos // e = .BoolOp p.1 p.2.1 p.2.2} := none
  un : Option {p : UnaryOp × PySem.Expr × Pos // e = .UnaryOp p.1 p.2.1 p.2.2} := none
  ite : Option {p : PySem.Expr × PySem.Expr × PySem.Expr × Pos // e = .IfExp p.1 p.2.1 p.2.2.1 p.2.2.2} := none
  list : Option {p : List PySem.Expr × Pos // e = .List p.1 p.2} := none
  tup : Option {p : List PySem.Expr × Nat × Pos // e = .Tuple p.1 p.2.1 p.2.2} := none
  dict : Option {p : Pos // e = .Dict [] [] p} := none
  sub : Option {p : PySem.Expr × PySem.Expr × Pos // e = .Subscript p.1 p.2.1 p.2.2} := none
  slc : Option {p : Option PySem.Expr × Option PySem.Expr × Pos // e = .Slice p.1 p.2.1 none p.2.2} := none
  con : Option {c : PySem.Const // ∃ k p, e = .Constant c k p} := none
  comp : Option {p : PySem.Expr × List PySem.Comprehension × PySem.Scope × Pos // e = .ListComp p.1 p.2.1 p.2.2.1 p.2.2.2} := none
  other : Bool := false
noncomputable def vw (e : PySem.Expr) : Vw e := match e with
  | .Name x p => { name := some ⟨(x, p), rfl⟩ }
  | .Attribute x y p => { attr := some ⟨(x, y, p), rfl⟩ }
  | .Call x y [] p => { call := some ⟨(x, y, p), rfl⟩ }
  | .BinOp x o y p => { bin := some ⟨(x, o, y, p), rfl⟩ }
  | .Compare x o y p => { cmp := some ⟨(x, o, y, p), rfl⟩ }
  | .BoolOp x o p => { bool := some ⟨(x, o, p), rfl⟩ }
  | .UnaryOp x o p => { un := some ⟨(x, o, p), rfl⟩ }
  | .IfExp x y z p => { ite := some ⟨(x, y, z, p), rfl⟩ }
  | .List x p => { list := some ⟨(x, p), rfl⟩ }
  | .Tuple x k p => { tup := some ⟨(x, k, p), rfl⟩ }
  | .Dict [] [] p => { dict := some ⟨p, rfl⟩ }
  | .Subscript x y p => { sub := some ⟨(x, y, p), rfl⟩ }
  | .Slice x y none p => { slc := some ⟨(x, y, p), rfl⟩ }
  | .Constant c _ _ => { con := some ⟨c, _, _, rfl⟩ }
  | .ListComp x y z p => { comp := some ⟨(x, y, z, p), rfl⟩ }
  | _ => { other := true }
theorem isE' {α : Type} {p : α → Prop} {x : Option (Subtype p)} {P : Prop} (h : x.isSome = true) (k : ∀ a, p a → P) : P := by
  cases x with
  | none => cases h
  | some a => exact k a.1 a.2
theorem orE {a b : Bool} {P : Prop} (h : (a || b) = true) (k1 : a = true → P) (k2 : b = true → P) : P := by
  cases a with
  | true => exact k1 rfl
  | false => exact k2 h
noncomputable def locB (NM : List Str) (ns : Nms) (i : Nat) (x : Str) : Bool := nameIs NM i (· == x) && (ns.lookup x == some .local) && !(x == ("__debug__" : Str))
noncomputable def rdB (NM : List Str) (ns : Nms) (i : Nat) (x : Str) : Bool := nameIs NM i (· == x) && (ns.lookup x == some .local || ns.lookup x == some .cell) && !(x == ("__debug__" : Str))
noncomputable def glbV (K : Frag) (x : Str) (v : V) : Option Value → Bool
  | some u => valIs v u
  | none => !(x == ("__name__" : Str)) && ob (bootBuiltins x) fun u => valIs v u
noncomputable def glbB (K : Frag) (ns : Nms) (x : Str) (v : V) : Bool := (ns.lookup x == some .globalImplicit) && !(x == ("__debug__" : Str)) && ob (nsIn K mainGlobals x) (glbV K x v)
noncomputable def conB (v : V) (c : PySem.Const) : Bool := match v with
  | .int j => c == .int j
  | .none => c == .none
  | .bool b => c == .bool b
  | .str y => c == .str y
  | _ => false
noncomputable def cstB (K : Frag) (ns : Nms) (v : V) (e : PySem.Expr) : Bool := (ob (vw e).con fun c => conB v c.1) || ob (vw e).name fun p => glbB K ns p.1.1 v
noncomputable def attrOk (e : PySem.Expr) : Bool := (vw e).name.isSome || ((vw e).attr.isSome || ((vw e).sub.isSome || ob (vw e).call fun p => !p.1.2.1.isEmpty))
noncomputable def plainT (e : PySem.Expr) : Bool := (vw e).name.isSome || ((vw e).attr.isSome || ((vw e).sub.isSome || ((vw e).call.isSome || (vw e).con.isSome)))
noncomputable def keptB (K : Frag) : V → Bool
  | .val a => keepIn K (.ref a)
  | .bi _ => true
  | .tyList => true
  | _ => false
noncomputable def plainE : PySem.Expr → Bool
  | .Slice .. => false
  | .Starred .. => false
  | .ListComp .. => false
  | .SetComp .. => false
  | .DictComp .. => false
  | .Set .. => false
  | _ => true
structure PlainE (e : PySem.Expr) : Prop where
  star : ∀ es env, starEach (e :: es) env = (false, eval e env) :: starEach es env
  slice : ∀ a b, subscripted e false a b = operate [a, b] (getItem a b)
  swap : ∀ t l env, swapsWith e t l env = pure false
  set : ∀ env x, foldedSetIterable e env x = pure x
theorem plainE_ok {e : PySem.Expr} (h : plainE e = true) : PlainE e := by
  cases e <;> first | exact ⟨fun _ _ => rfl, fun _ _ => rfl, fun _ _ _ => rfl, fun _ _ => rfl⟩ | cases h
noncomputable def allB (f : ME → PySem.Expr → Bool) : List ME → List PySem.Expr → Bool
  | [], [] => true
  | m :: ms, e :: es => plainE e && (f m e && allB f ms es)
  | _, _ => false
noncomputable def cstM (m : ME) : Option {v : V // m = .cst v} := match m with
  | .cst v => some ⟨v, rfl⟩
  | _ => none
section chk
variable (K : Frag) (NM : List Str) (ns : Nms)
noncomputable abbrev CkR := (ME → PySem.Expr → Bool) × (ME → PySem.Expr → Bool)
noncomputable def ckCmp (r : CkR) (op : CmpOp) (a b : ME) (e : PySem.Expr) : Bool := ob (vw e).cmp fun p => ob (arg1 p.1.2.1) fun o => ob (arg1 p.1.2.2.1) fun y => decide (op = o.1) && (r.1 a p.1.1 && (r.1 b y.1 && !(behindInMarks o.1 y.1)))
noncomputable def ckChain (r : CkR) (o1 o2 : CmpOp) (a b d : ME) (e : PySem.Expr) : Bool := ob (vw e).cmp fun p => ob (arg2 p.1.2.1) fun o => ob (arg2 p.1.2.2.1) fun y => decide (o1 = o.1.1) && (decide (o2 = o.1.2) && (r.1 a p.1.1 && (r.1 b y.1.1 && (r.1 d y.1.2 && !(lastMarks [o.1.1, o.1.2] [y.1.1, y.1.2])))))
noncomputable def ckE1 (r : CkR) (me : ME) (e : PySem.Expr) : Bool := match me with
  | .stop => true
  | .nm i => ob (vw e).name fun p => rdB NM ns i p.1.1
  | .cst v => cstB K ns v e
  | .attr o a => ob (vw e).attr fun p => attrOk p.1.1 && (nameIs NM a (· == p.1.2.1) && r.1 o p.1.1)
  | .call f es => ob (vw e).call fun p => (vw p.1.1).name.isSome && ob (cstM f) fun v => keptB K v.1 && (r.1 f p.1.1 && allB r.1 es p.1.2.1)
  | .meth o a es => ob (vw e).call fun p => ob (vw p.1.1).attr fun q => attrOk q.1.1 && (nameIs NM a (· == q.1.2.1) && (r.1 o q.1.1 && (allB r.1 es p.1.2.1 && ((q.1.2.2.endLine == p.1.2.2.line) && decide (p.1.2.1.length < 30)))))
  | .bin op a b => ob (vw e).bin fun p => decide (op = p.1.2.1) && (r.1 a p.1.1 && r.1 b p.1.2.2.1)
  | .cmp op a b => ckCmp r op a b e
  | .chain .. => true
  | .and a b => ob (vw e).bool fun p => decide (p.1.1 = .And) && ob (arg2 p.1.2.1) fun y => r.1 a y.1.1 && r.1 b y.1.2
  | .or a b => ob (vw e).bool fun p => decide (p.1.1 = .Or) && ob (arg2 p.1.2.1) fun y => r.1 a y.1.1 && r.1 b y.1.2
  | .not a => ob (vw e).un fun p => decide (p.1.1 = .Not) && r.1 a p.1.2.1
  | .neg a => ob (vw e).un fun p => decide (p.1.1 = .USub) && r.1 a p.1.2.1
  | .ite t a b => ob (vw e).ite fun p => r.2 t p.1.1 && (r.1 a p.1.2.1 && r.1 b p.1.2.2.1)
  | .list es => ob (vw e).list fun p => allB r.1 es p.1.1
  | .tup es => ob (vw e).tup fun p => allB r.1 es p.1.1
  | .dict0 => (vw e).dict.isSome
  | .sub o i => ob (vw e).sub fun p => r.1 o p.1.1 && (r.1 i p.1.2.1 && plainE p.1.2.1)
  | .from o i => ob (vw e).sub fun p => (vw p.1.1).name.isSome && ob (vw p.1.2.1).slc fun y => y.1.2.1.isNone && ob y.1.1 fun z => r.1 o p.1.1 && r.1 i z
noncomputable def ckOr (r : CkR) (a b : ME) (p : Pos) : List PySem.Expr → Bool
  | [x, y] => r.2 a x && r.2 b y
  | [x, y, z] => r.2 a x && r.2 b (.BoolOp .Or [y, z] p)
  | _ => false
noncomputable def ckT1 (r : CkR) (me : ME) (e : PySem.Expr) : Bool := match me with
  | .and a b => ob (vw e).bool fun p => decide (p.1.1 = .And) && ob (arg2 p.1.2.1) fun y => r.2 a y.1.1 && r.2 b y.1.2
  | .or a b => ob (vw e).bool fun p => decide (p.1.1 = .Or) && ckOr r a b p.1.2.2 p.1.2.1
  | .not a => ob (vw e).un fun p => decide (p.1.1 = .Not) && r.2 a p.1.2.1
  | .cmp op a b => ckCmp r op a b e
  | .chain o1 o2 a b d => ckChain r o1 o2 a b d e
  | .ite .. => true
  | .stop => true
  | me => plainT e && r.1 me e
noncomputable def ck : Nat → CkR
  | 0 => (fun _ _ => false, fun _ _ => false)
  | n + 1 => (ckE1 K NM ns (ck n), ckT1 (ck n))
noncomputable def chkE (n : Nat) (me : ME) (e : PySem.Expr) : Bool := (ck K NM ns n).1 me e
noncomputable def chkT (n : Nat) (me : ME) (e : PySem.Expr) : Bool := (ck K NM ns n).2 me e
end chk
theorem star_cons {e : PySem.Expr} {es : List PySem.Expr} {env : Env} (h : plainE e = true) : starEach (e :: es) env = (false, eval e env) :: starEach es env := (plainE_ok h).star es env
theorem allB_nil {f : ME → PySem.Expr → Bool} {es : List PySem.Expr} (h : allB f [] es = true) : es = [] := by
  cases es with
  | nil => rfl
  | cons _ _ => cases h
theorem allB_cons {f : ME → PySem.Expr → Bool} {m : ME} {ms : List ME} {es : List PySem.Expr} (h : allB f (m :: ms) es = true) {P : Prop} (k : ∀ e r, es = e :: r → plainE e = true → f m e = true → allB f ms r = true → P) : P := by
  cases es with
  | nil => cases h
  | cons e r => exact anE h fun h1 h => anE h fun h2 h3 => k e r rfl h1 h2 h3
theorem allB_star {f : ME → PySem.Expr → Bool} {env : Env} {pos : Pos} {ms : List ME} : ∀ {es : List PySem.Expr}, allB f ms es = true → (backTo pos (starEach es env)).any (·.1) = false ∧ (backTo pos (starEach es env)).all (!·.1) = true := by
  induction ms with
  | nil => intro es h; rw [allB_nil h]; exact ⟨rfl, rfl⟩
  | cons m ms ih =>
    intro es h
    exact allB_cons h fun e r he h1 h2 h3 => by
      rw [he, star_cons h1]
      exact ih h3
section call
variable {M : Model} {A : Around} {E : Value → Shared → Prop} {s : Shared} {K : Frag} {env : Env} {pos : Pos} {f : Value} {first : List Value} {Q : Value → Shared → Prop}
theorem evalArgs_star {g : ME → PySem.Expr → Bool} {ms : List ME} {es : List PySem.Expr} (h : allB g ms es = true) {Q : Args → Shared → Prop} (k : wpAny M A (spliced (backTo pos (starEach es env))) (fun vs s' => Q ⟨vs, []⟩ s') E s) :
    wpAny M A (evalArgs f true (backTo pos (starEach es env)) []) Q E s := by
  cases ms with
  | nil =>
    rw [allB_nil h] at k ⊢
    unfold evalArgs
    show wpAny M A (spliced [] >>= _) Q E s
    refine wpAny_bind (wpAny_mono k (fun vs s' h' => ?_) fun _ _ x => x)
    refine wpAny_bind (wpAny_pure ?_)
    refine wpAny_holding ?_
    exact wpAny_bind (wpAny_pure (wpAny_bind (wpAny_pure (wpAny_pure h'))))
  | cons m ms =>
    exact allB_cons h fun e r he h1 h2 h3 => by
      rw [he, star_cons h1] at k ⊢
      exact evalArgs_plain k
theorem callW_ok {g : ME → PySem.Expr → Bool} {ms : List ME} {es : List PySem.Expr} (h : allB g ms es = true) {ρ : List RA} {fv : V} (hf : VR ρ fv f) (hk : keptB K fv = true)
    (k : wpAny M A (spliced (backTo pos (starEach es env))) (fun vs s₁ => K.In s₁.heap ∧ wpAny M A (call f (first ++ vs)) Q E s₁) E s) :
    wpAny M A (callWith pos f first (backTo pos (starEach es env)) []) Q E s := by
  cases hf with
  | val a => exact callWith_of (by rw [(allB_star h).1]; rfl) (keeps_K hk) (evalArgs_star h k)
  | bi b => exact Calls.callWith_builtin (allB_star h).1 (evalArgs_star h (wpAny_mono k (fun _ _ x => x.2) fun _ _ x => x))
  | tyList => exact PyProof.Rows.callWith_type (allB_star h).1 (evalArgs_star h (wpAny_mono k (fun _ _ x => x.2) fun _ _ x => x))
  | _ => cases hk
end call
noncomputable def kpB (K : Frag) (T : Tab) : Bool := T.cl.all fun p => (p.2.meths.all fun q => keepIn K (.ref q.2)) && (p.2.cm.all fun q => keepIn K (.ref q.2))
structure CfgOK (K : Frag) (NM : List Str) (c : Cfg) : Prop where
  W : WfT K NM c.T
  kp : kpB K c.T = true
  app : at? NM c.nmApp = some "append"
  pop : at? NM c.nmPop = some "pop"
structure Cx (prog : Program) (w : World) (K : Frag) (NM : List Str) (env : Env) (L : Addr) (h₀ : Heap) (A : Around) (d : Nat) : Prop where
  X : K.In h₀
  Tp : ∃ p loose mean mg mb, Top p loose mean mg mb h₀
  B : ∃ A₀ base fenv outer, Below A₀ base outer h₀ ∧ A.frames = some (fenv :: outer) ∧ fenv.frame = some L ∧ fenv.scope.kind = .function
  gl : env.globals = mainGlobals
  bt : env.builtins = builtinsNs
  hh : A.handled = none
  kf : env.scope.kind = .function
  dep : A.depth + 4 * d < recursionLimit
  un : A.units + 16 * d + 80 < cLine
  gd : A.guards = some []
noncomputable def CallsOK (prog : Program) (w : World) (K : Frag) (NM : List Str) (d : Nat) (cf : CF) : Prop :=
  ∀ {env L h₀ A}, Cx prog w K NM env L h₀ A d → ∀ {ρ σ σ' m news} {s : Shared} {fv vs r f xs} {Q : Value → Shared → Prop} {E}, Dy NM h₀ L ρ σ m news s.heap → VR ρ fv f → VsR ρ vs xs → cf fv vs σ = some (r, σ') →
    Post NM h₀ L m ρ news σ' r Q s → wpAny (model prog w) A (call f xs) Q E s
noncomputable def PostL (NM : List Str) (h₀ : Heap) (L : Addr) (m : Str → Option Value) (ρ : List RA) (news : Led) (σ' : H) (rs : List V) (Q : List Value → Shared → Prop) (s : Shared) : Prop :=
  ∀ ρ' news' h' tk ys, Dy NM h₀ L ρ' σ' m news' h' → Le ρ ρ' news news' → VsR ρ' rs ys → Q ys { heap := h', gens := s.gens, drawn := s.drawn, toks := tk, os := s.os }
noncomputable def PostB (NM : List Str) (h₀ : Heap) (L : Addr) (m : Str → Option Value) (ρ : List RA) (news : Led) (σ' : H) (b : Bool) (Q : Bool → Shared → Prop) (s : Shared) : Prop :=
  ∀ ρ' news' h' tk, Dy NM h₀ L ρ' σ' m news' h' → Le ρ ρ' news news' → Q b { heap := h', gens := s.gens, drawn := s.drawn, toks := tk, os := s.os }
section ev
variable {prog : Program} {w : World} {K : Frag} {NM : List Str} {c : Cfg} {env : Env} {L : Addr} {h₀ : Heap} {A : Around} {d : Nat} {cf : CF}
noncomputable def EvOK (prog : Program) (w : World) (K : Frag) (NM : List Str) (c : Cfg) (env : Env) (L : Addr) (h₀ : Heap) (A : Around) (cf : CF) (n : Nat) : Prop :=
  ∀ {k me e l σ r σ'}, chkE K NM env.scope.names k me e = true → evE c cf n l me σ = some (r, σ') → ∀ {s : Shared} {ρ news m}, Dy NM h₀ L ρ σ m news s.heap → LocR NM env L ρ news l m → ∀ {Q : Value → Shared → Prop} {E}, Post NM h₀ L m ρ news σ' r Q s →
    wpAny (model prog w) A (eval e env) Q E s
noncomputable def TsOK (prog : Program) (w : World) (K : Frag) (NM : List Str) (c : Cfg) (env : Env) (L : Addr) (h₀ : Heap) (A : Around) (cf : CF) (n : Nat) : Prop :=
  ∀ {k me e l σ r σ'}, chkT K NM env.scope.names k me e = true → evT c cf n l me σ = some (r, σ') → ∀ {s : Shared} {ρ news m}, Dy NM h₀ L ρ σ m news s.heap → LocR NM env L ρ news l m → ∀ {Q : Bool → Shared → Prop} {E}, PostB NM h₀ L m ρ news σ' r Q s →
    wpAny (model prog w) A (PySem.isTrue e env (eval e env)) Q E s
theorem Post.le {m : Str → Option Value} {ρ ρ1 : List RA} {news news1 : Led} {σ' : H} {r : V} {Q : Value → Shared → Prop} {s : Shared} (q : Post NM h₀ L m ρ news σ' r Q s) (X : Le ρ ρ1 news news1) {h : Heap} {tk : Nat} : Post NM h₀ L m ρ1 news1 σ' r Q { heap := h, gens := s.gens, drawn := s.drawn, toks := tk, os := s.os } :=
  fun ρ2 news2 h2 tk2 y D2 L2 r2 => q ρ2 news2 h2 tk2 y D2 (X.trans L2) r2
theorem PostU.le {m : Str → Option Value} {ρ ρ1 : List RA} {news news1 : Led} {σ' : H} {Q : Unit → Shared → Prop} {s : Shared} (q : PostU NM h₀ L m ρ news σ' Q s) (X : Le ρ ρ1 news news1) {h : Heap} {tk : Nat} : PostU NM h₀ L m ρ1 news1 σ' Q { heap := h, gens := s.gens, drawn := s.drawn, toks := tk, os := s.os } :=
  fun ρ2 news2 h2 tk2 D2 L2 => q ρ2 news2 h2 tk2 D2 (X.trans L2)
theorem PostB.le {m : Str → Option Value} {ρ ρ1 : List RA} {news news1 : Led} {σ' : H} {r : Bool} {Q : Bool → Shared → Prop} {s : Shared} (q : PostB NM h₀ L m ρ news σ' r Q s) (X : Le ρ ρ1 news news1) {h : Heap} {tk : Nat} : PostB NM h₀ L m ρ1 news1 σ' r Q { heap := h, gens := s.gens, drawn := s.drawn, toks := tk, os := s.os } :=
  fun ρ2 news2 h2 tk2 D2 L2 => q ρ2 news2 h2 tk2 D2 (X.trans L2)
theorem evL_ok {n k : Nat} (H : EvOK prog w K NM c env L h₀ A cf n) {pos : Pos} {ms : List ME} : ∀ {es l σ r}, allB (ck K NM env.scope.names k).1 ms es = true → evL ((ev c cf n).1 l) ms σ = some r → ∀ {s : Shared} {ρ news m}, Dy NM h₀ L ρ σ m news s.heap → LocR NM env L ρ news l m →
    ∀ {Q : List Value → Shared → Prop} {E}, PostL NM h₀ L m ρ news r.2 r.1 Q s → wpAny (model prog w) A (spliced (backTo pos (starEach es env))) Q E s := by
  induction ms with
  | nil =>
    intro es l σ r hb he s ρ news m D hl Q E q
    rw [allB_nil hb]
    cases he
    exact spliced_none (q _ _ _ s.toks _ D .refl .nil)
  | cons mm ms ih =>
    intro es l σ r hb he s ρ news m D hl Q E q
    exact allB_cons hb fun e t hes b1 b2 b3 => bdE he fun p h1 he => mpE he fun p2 h2 he => by
      subst hes he
      exact spliced_more (H b2 h1 D hl fun ρ1 news1 h1' tk y D1 L1 hv => ih b3 h2 D1 (L1.loc hl) fun ρ2 news2 h2' tk2 ys D2 L2 hvs => q _ _ _ _ _ D2 (L1.trans L2) (.cons (L2.vr hv) hvs)) (star_cons b1)
theorem nm_ok {i : Nat} {x : Str} (h : nameIs NM i (· == x) = true) : at? NM i = some x := obE h fun y hy h => by rw [hy, eq_ok h]
theorem locB_ok {ns : Nms} {i : Nat} {x : Str} (h : locB NM ns i x = true) : at? NM i = some x ∧ ns.lookup x = some .local ∧ (x == ("__debug__" : Str)) = false :=
  anE h fun h h3 => anE h fun h1 h2 => ⟨nm_ok h1, eq_ok h2, not_ok h3⟩
theorem rdB_ok {ns : Nms} {i : Nat} {x : Str} (h : rdB NM ns i x = true) : at? NM i = some x ∧ (x == ("__debug__" : Str)) = false :=
  anE h fun h h3 => anE h fun h1 h2 => ⟨nm_ok h1, not_ok h3⟩
theorem glb_ok (C : Cx prog w K NM env L h₀ A d) {x : Str} {v : V} (h : glbB K env.scope.names x v = true) {m : Str → Option Value} {s : Shared} (F : Fr h₀ L s.heap m) {pos : Pos} {Q : Value → Shared → Prop} {E : Value → Shared → Prop} (q : ∀ u, (∀ ρ, VR ρ v u) → Q u s) :
    wpAny (model prog w) A (eval (.Name x pos) env) Q E s := by
  obtain ⟨p, loose, mean, mg, mb, T⟩ := C.Tp
  exact anE h fun h h3 => anE h fun h1 h2 => obE h3 fun o hu h3 => by
    cases o with
    | some u => exact Name_function_global C.kf (eq_ok h1) (loadGlobal_global (by rw [C.gl]; exact T.g.keeps F.keep) (mg_of C.X T.g hu) (q u (valIs_ok h3))) (not_ok h2)
    | none =>
      exact anE h3 fun h4 h3 => obE h3 fun u hb h5 => Name_function_global C.kf (eq_ok h1) (loadGlobal_builtin (by rw [C.gl]; exact T.g.keeps F.keep) (mg_none_of C.X T.g hu) (by rw [C.bt]; exact T.b.keeps F.keep) (((topRead_of T).builtins x (beq_eq_false_iff_ne.mp (not_ok h4))).trans hb) (q u (valIs_ok h5))) (not_ok h2)
theorem bname_ok (C : Cx prog w K NM env L h₀ A d) {x : Str} {v : Value} {m : Str → Option Value} {s : Shared} (F : Fr h₀ L s.heap m) (hu : nsIn K mainGlobals x = some none) (hb : bootBuiltins x = some v) (hn : x ≠ "__name__") {pos : Pos} {Q : Value → Shared → Prop} {E : Value → Shared → Prop} (q : Q v s)
    (h1 : env.scope.names.lookup x = some .globalImplicit) (h2 : (x == ("__debug__" : Str)) = false) : wpAny (model prog w) A (eval (.Name x pos) env) Q E s := by
  obtain ⟨p, loose, mean, mg, mb, T⟩ := C.Tp
  have TR := topRead_of T
  exact Name_function_global C.kf h1 (loadGlobal_builtin (by rw [C.gl]; exact T.g.keeps F.keep) (mg_none_of C.X T.g hu) (by rw [C.bt]; exact T.b.keeps F.keep) ((TR.builtins x hn).trans hb) q) h2
theorem rd_ok (C : Cx prog w K NM env L h₀ A d) {x : Str} {u : Value} {σ : H} {ρ : List RA} {news : Led} {m : Str → Option Value} {s : Shared} (D : Dy NM h₀ L ρ σ m news s.heap) (h : Rd env L ρ news m x u) (hx : (x == ("__debug__" : Str)) = false) {pos : Pos} {Q : Value → Shared → Prop} {E : Value → Shared → Prop} (q : Q u s) :
    wpAny (model prog w) A (eval (.Name x pos) env) Q E s := by
  rcases h with ⟨h1, h2, h3⟩ | ⟨h1, c, o, h2, h3, h4, h5⟩ | ⟨h1, o, m₂, h2, h3, ⟨es, ep, h4, h5, h6⟩, h7⟩
  · exact wpAny_Name (wpAny_loadName_local C.kf h1 (by rw [h2]; exact D.F.ns) h3 q) hx
  · exact wpAny_Name (wpAny_loadName_cell C.kf h1 h2 ⟨o, (D.N _ h3).1, h5⟩ q) hx
  · exact wpAny_Name (wpAny_loadName_local C.kf h1 ⟨o, es, ep, (D.N _ h2).1, h4, h5, h6⟩ h7 q) hx
theorem con_ok {c : PySem.Const} {v : V} (h : conB v c = true) {k : Nat} {p : Pos} {σ : H} {m : Str → Option Value} {ρ : List RA} {news : Led} {s : Shared} (D : Dy NM h₀ L ρ σ m news s.heap) {Q : Value → Shared → Prop} {E : Value → Shared → Prop}
    (q : Post NM h₀ L m ρ news σ v Q s) : wpAny (model prog w) A (eval (.Constant c k p) env) Q E s := by
  cases v with
  | int i => rw [eq_ok h]; exact wpAny_Constant_int (q.now D (.int _ _))
  | none => rw [eq_ok h]; exact wpAny_Constant_none (q.now (tk := s.toks) D .none)
  | bool b => rw [eq_ok h]; exact wpAny_Constant_bool (q.now (tk := s.toks) D (.bool _))
  | str x => rw [eq_ok h]; exact Constant_str (q.now D (.str _ _))
  | _ => cases h
theorem cst_ok (C : Cx prog w K NM env L h₀ A d) {e : PySem.Expr} {v : V} (h : cstB K env.scope.names v e = true) {σ : H} {m : Str → Option Value} {ρ : List RA} {news : Led} {s : Shared} (D : Dy NM h₀ L ρ σ m news s.heap) {Q : Value → Shared → Prop} {E : Value → Shared → Prop}
    (q : Post NM h₀ L m ρ news σ v Q s) : wpAny (model prog w) A (eval e env) Q E s :=
  orE h (fun h => osE h fun c ⟨k, p, he⟩ h => by
    rw [he]
    exact con_ok h D q)
  fun h => osE h fun p he h => by
    rw [he]
    exact glb_ok C h D.F fun u hu => q.now (tk := s.toks) D (hu ρ)
theorem attr_eq {e : PySem.Expr} (h : attrOk e = true) (attr : Str) (env : Env) (t : Sem Value) : attributeBase e attr env t = t :=
  orE h (fun h => isE' h fun p he => by rw [he]; rfl) fun h => orE h (fun h => isE' h fun p he => by rw [he]; rfl) fun h => orE h (fun h => isE' h fun p he => by rw [he]; rfl) fun h => osE h fun p he h => by
    rw [he]
    obtain ⟨f, as, p⟩ := p
    cases as with
    | nil => cases h
    | cons a as => cases f <;> rfl
theorem kept_of (G : CfgOK K NM c) {v : V} {r : V × List V} {x : Nat} {σ : H} (e : getM c.T v x σ c.nmApp c.nmPop = some r) : keptB K r.1 = true := by
  have kp := all_ok G.kp
  cases v with
  | ref i =>
    refine bdE e fun o _ e => ?_
    cases o with
    | inst C fs =>
      refine bdE e fun cx hcx e => ?_
      unfold methF at e
      revert e
      cases lk fs x with
      | some _ => exact fun e => by cases e
      | none => exact fun e => mpE e fun f hf e => by subst e; exact anE (kp _ (lk_mem hcx)) fun h1 _ => all_ok h1 _ (lk_mem hf)
    | list xs => exact cdE e (fun _ e => by cases e; rfl) fun _ e => gdE e fun _ e => by cases e; rfl
    | _ => cases e
  | val C => exact bdE e fun cx hcx e => mpE e fun f hf e => by subst e; exact anE (kp _ (lk_mem hcx)) fun _ h2 => all_ok h2 _ (lk_mem hf)
  | _ => cases e
theorem attr_ok {e : PySem.Expr} (h : attrOk e = true) {attr : Str} {pos : Pos} {env : Env} {Q : Value → Shared → Prop} {E : Value → Shared → Prop} {s : Shared}
    (q : wpAny (model prog w) A (eval e env) (fun o s₁ => wpAny (model prog w) A (getAttr o attr true) Q E s₁) E s) : wpAny (model prog w) A (eval (.Attribute e attr pos) env) Q E s :=
  Attribute_any_ q (by rw [arm_eval_Attribute, attr_eq h])
theorem meth_ok {e : PySem.Expr} (h : attrOk e = true) {attr : Str} {apos pos : Pos} {env : Env} {args : List PySem.Expr} {g : ME → PySem.Expr → Bool} {ms : List ME} (hb : allB g ms args = true) (hl : args.length < 30) (hp : (apos.endLine == pos.line) = true)
    {Q : Value → Shared → Prop} {E : Value → Shared → Prop} {s : Shared}
    (q : wpAny (model prog w) A (eval e env) (fun ov s₁ => ∀ pl, wpAny (model prog w) A (getMethod ov attr pl) (fun fx s₂ => wpAny (model prog w) A (callWith pos fx.1 fx.2 (backTo pos (starEach args env)) []) Q E s₂) E s₁) E s) :
    wpAny (model prog w) A (eval (.Call (.Attribute e attr apos) args [] pos) env) Q E s := by
  rw [arm_eval_Call, attr_eq h]
  refine wpAny_bind (wpAny_mono q (fun ov s₁ h₁ => wpAny_bind (wpAny_standAt ?_)) fun _ _ x => x)
  have hf : methodCallForm (args.length + ([] : List Keyword).length) (backTo pos (starEach args env)) (backToKw pos (keywordEach [] env)) = true := by
    unfold methodCallForm
    rw [(allB_star hb).2]
    simp [backToKw, keywordEach, hl]
  unfold methodCall
  rw [hf]
  refine wpAny_bind (wpAny_holding ?_)
  show wpAny _ _ (getMethod ov attr _) _ _ _
  refine wpAny_mono (h₁ _) (fun fx s₂ h₂ => ?_) fun _ _ x => x
  obtain ⟨f, first⟩ := fx
  show wpAny _ _ (do let callPos ← methodCallPos true e env apos pos; callWith callPos f first _ _) _ _ _
  refine wpAny_bind ?_
  have : methodCallPos true e env apos pos = pure pos := by
    unfold methodCallPos
    rw [hp]
    rfl
  rw [this]
  exact wpAny_pure h₂
end ev
theorem ifT {c : Bool} {A B : Prop} (h : c = true) (a : A) : if c = true then A else B := by subst h; exact a
theorem ifF {c : Bool} {A B : Prop} (h : c = false) (a : B) : if c = true then A else B := by subst h; exact a
section ev
variable {prog : Program} {w : World} {K : Frag} {NM : List Str} {c : Cfg} {env : Env} {L : Addr} {h₀ : Heap} {A : Around} {d : Nat} {cf : CF}
theorem two {n k : Nat} (HE : EvOK prog w K NM c env L h₀ A cf n) {a b : ME} {x y : PySem.Expr} {l : Loc} {σ : H} {p q : V × H} (h1 : (ck K NM env.scope.names k).1 a x = true) (h2 : (ck K NM env.scope.names k).1 b y = true) (e1 : (ev c cf n).1 l a σ = some p) (e2 : (ev c cf n).1 l b p.2 = some q)
    {s : Shared} {ρ news m} (D : Dy NM h₀ L ρ σ m news s.heap) (hl : LocR NM env L ρ news l m) {E : Value → Shared → Prop} {F : Value → Value → Shared → Prop}
    (z : ∀ ρ' news' h' tk u v, Dy NM h₀ L ρ' q.2 m news' h' → Le ρ ρ' news news' → VR ρ' p.1 u → VR ρ' q.1 v → F u v { heap := h', gens := s.gens, drawn := s.drawn, toks := tk, os := s.os }) :
    wpAny (model prog w) A (eval x env) (fun u s₁ => wpAny (model prog w) A (eval y env) (fun v s₂ => F u v s₂) E s₁) E s :=
  HE h1 e1 D hl fun ρ1 news1 hh1 tk1 y1 D1 L1 r1 => HE h2 e2 D1 (L1.loc hl) fun ρ2 news2 hh2 tk2 y2 D2 L2 r2 => z _ _ _ _ _ _ D2 (L1.trans L2) (L2.vr r1) r2
theorem un_ok (C : Cx prog w K NM env L h₀ A d) : A.units + 64 < cLine := by have := C.un; omega
theorem cmp2_ok (G : CfgOK K NM c) (C : Cx prog w K NM env L h₀ A d) {n k : Nat} (HE : EvOK prog w K NM c env L h₀ A cf n) {op : CmpOp} {a b : ME} {x y : PySem.Expr} {pos : Pos} {l : Loc} {σ : H} {v1 v2 : V × H} {t : Bool} (b1 : (ck K NM env.scope.names k).1 a x = true) (b2 : (ck K NM env.scope.names k).1 b y = true) (b3 : (!(behindInMarks op y)) = true)
    (g1 : (ev c cf n).1 l a σ = some v1) (g2 : (ev c cf n).1 l b v1.2 = some v2) (ht : cmpB c.T op v1.1 v2.1 v2.2 = some t) {s : Shared} {ρ news m} (D : Dy NM h₀ L ρ σ m news s.heap) (hl : LocR NM env L ρ news l m) :
    (∀ {Q : Value → Shared → Prop} {E : Value → Shared → Prop}, Post NM h₀ L m ρ news v2.2 (.bool t) Q s → wpAny (model prog w) A (eval (.Compare x [op] [y] pos) env) Q E s) ∧ (∀ {Q : Bool → Shared → Prop} {E : Value → Shared → Prop} {wh : Sem Value}, PostB NM h₀ L m ρ news v2.2 t Q s → wpAny (model prog w) A (PySem.isTrue (.Compare x [op] [y] pos) env wh) Q E s) :=
  ⟨fun q => wpAny_Compare1 (two HE b1 b2 g1 g2 D hl fun _ _ h2 tk2 _ _ D2 L2 r1 r2 => cmpB_ok C.X G.W (s := ⟨h2, s.gens, s.drawn, tk2, s.os⟩) (un_ok C) D2 r1 r2 ht fun tk => q _ _ _ tk _ D2 L2 (.bool _)) (not_ok b3),
    fun q => wpAny_isTrue_Compare1 (two HE b1 b2 g1 g2 D hl fun _ _ h2 tk2 _ _ D2 L2 r1 r2 => cmpB_ok C.X G.W (s := ⟨h2, s.gens, s.drawn, tk2, s.os⟩) (un_ok C) D2 r1 r2 ht fun tk => wpAny_truthy_bool (q _ _ _ tk D2 L2)) (not_ok b3)⟩
theorem ckCmp_of {r : CkR} {op : CmpOp} {a b : ME} {e : PySem.Expr} (hb : ckCmp r op a b e = true) {P : Prop} (k : ∀ x y pos, e = .Compare x [op] [y] pos → r.1 a x = true → r.1 b y = true → (!(behindInMarks op y)) = true → P) : P :=
  osE hb fun p hp hb => osE hb fun o ho hb => osE hb fun y hy hb => anE hb fun b0 hb => anE hb fun b1 hb => anE hb fun b2 b3 => by
    have b0 : op = o := of_decide_eq_true b0
    subst b0
    exact k p.1 y p.2.2.2 (by rw [hp, show p.2.1 = [op] from ho, show p.2.2.1 = [y] from hy]) b1 b2 b3
theorem cmp1_ok (G : CfgOK K NM c) (C : Cx prog w K NM env L h₀ A d) {n k : Nat} (HE : EvOK prog w K NM c env L h₀ A cf n) {op : CmpOp} {a b : ME} {e : PySem.Expr} {l : Loc} {σ : H} {v1 v2 : V × H} {t : Bool} (hb : ckCmp (ck K NM env.scope.names k) op a b e = true)
    (g1 : (ev c cf n).1 l a σ = some v1) (g2 : (ev c cf n).1 l b v1.2 = some v2) (ht : cmpB c.T op v1.1 v2.1 v2.2 = some t) {s : Shared} {ρ news m} (D : Dy NM h₀ L ρ σ m news s.heap) (hl : LocR NM env L ρ news l m) :
    (∀ {Q : Value → Shared → Prop} {E : Value → Shared → Prop}, Post NM h₀ L m ρ news v2.2 (.bool t) Q s → wpAny (model prog w) A (eval e env) Q E s) ∧ (∀ {Q : Bool → Shared → Prop} {E : Value → Shared → Prop} {wh : Sem Value}, PostB NM h₀ L m ρ news v2.2 t Q s → wpAny (model prog w) A (PySem.isTrue e env wh) Q E s) :=
  ckCmp_of hb fun x y pos he b1 b2 b3 => by
    rw [he]
    exact cmp2_ok G C HE b1 b2 b3 g1 g2 ht D hl
theorem ckChain_of {r : CkR} {o1 o2 : CmpOp} {a b z : ME} {e : PySem.Expr} (hb : ckChain r o1 o2 a b z e = true) {P : Prop} (k : ∀ x y1 y2 pos, e = .Compare x [o1, o2] [y1, y2] pos → r.1 a x = true → r.1 b y1 = true → r.1 z y2 = true → lastMarks [o1, o2] [y1, y2] = false → P) : P :=
  osE hb fun p hp hb => osE hb fun o ho hb => osE hb fun y hy hb => anE hb fun b0 hb => anE hb fun b01 hb => anE hb fun b1 hb => anE hb fun b2 hb => anE hb fun b3 b4 => by
    have b0 : o1 = o.1 := of_decide_eq_true b0
    have b01 : o2 = o.2 := of_decide_eq_true b01
    exact k p.1 y.1 y.2 p.2.2.2 (by rw [hp, show p.2.1 = [o.1, o.2] from ho, show p.2.2.1 = [y.1, y.2] from hy, b0, b01]) b1 b2 b3 (by rw [b0, b01]; exact not_ok b4)
theorem chain_ok (G : CfgOK K NM c) (C : Cx prog w K NM env L h₀ A d) {n k : Nat} (HE : EvOK prog w K NM c env L h₀ A cf n) {o1 o2 : CmpOp} {a b z : ME} {e : PySem.Expr} {l : Loc} {σ : H} {v1 v2 : V × H} {t : Bool} {r : Bool × H} (hb : ckChain (ck K NM env.scope.names k) o1 o2 a b z e = true)
    (g1 : (ev c cf n).1 l a σ = some v1) (g2 : (ev c cf n).1 l b v1.2 = some v2) (ht : cmpB c.T o1 v1.1 v2.1 v2.2 = some t)
    (he : (bif t then ((ev c cf n).1 l z v2.2).bind fun z => (cmpB c.T o2 v2.1 z.1 z.2).map fun v => (v, z.2) else some (false, v2.2)) = some r) {s : Shared} {ρ news m} (D : Dy NM h₀ L ρ σ m news s.heap) (hl : LocR NM env L ρ news l m)
    {Q : Bool → Shared → Prop} {E : Value → Shared → Prop} {wh : Sem Value} (q : PostB NM h₀ L m ρ news r.2 r.1 Q s) : wpAny (model prog w) A (PySem.isTrue e env wh) Q E s :=
  ckChain_of hb fun x y1 y2 pos hx b1 b2 b3 b4 => by
    rw [hx]
    exact isTrue_chain (HE b1 g1 D hl fun ρ1 news1 hh1 tk1 u D1 L1 r1 => test_link (HE b2 g2 D1 (L1.loc hl) fun ρ2 news2 hh2 tk2 v D2 L2 r2 => cmpB_ok C.X G.W (s := ⟨hh2, s.gens, s.drawn, tk2, s.os⟩) (un_ok C) D2 (L2.vr r1) r2 ht fun tk => wpAny_truthy_bool
      (cdE he (fun h he => ifT h (bdE he fun v3 g3 he => mpE he fun t2 ht2 he => by
          rw [← he] at q
          exact test_last (HE b3 g3 D2 ((L1.trans L2).loc hl) fun ρ4 news4 hh4 tk4 y4 D4 L4 r4 => cmpB_ok C.X G.W (s := ⟨hh4, s.gens, s.drawn, tk4, s.os⟩) (un_ok C) D4 (L4.vr r2) r4 ht2 fun tk => wpAny_truthy_bool (q _ _ _ tk D4 ((L1.trans L2).trans L4)))))
        fun h he => ifF h (by rw [← Option.some.inj he] at q; exact q _ _ _ _ D2 (L1.trans L2))))) b4
theorem tr_bool {v : V} {x : Value} {t : Bool} {ρ : List RA} (h : VR ρ v x) (e : v = .bool t) : x = .bool t := by subst e; cases h; rfl
theorem ev_bool (G : CfgOK K NM c) {n k : Nat} (HE : EvOK prog w K NM c env L h₀ A cf n) {a : ME} {x : PySem.Expr} {l : Loc} {σ : H} {v : V × H} {t : Bool} (b1 : (ck K NM env.scope.names k).1 a x = true) (g1 : (ev c cf n).1 l a σ = some v) (ht : v.1 = .bool t) {s : Shared} {ρ news m} (D : Dy NM h₀ L ρ σ m news s.heap) (hl : LocR NM env L ρ news l m)
    {F : Bool → Value → Shared → Prop} {E : Value → Shared → Prop} (q : ∀ ρ' news' h' tk, Dy NM h₀ L ρ' v.2 m news' h' → Le ρ ρ' news news' → F t (.bool t) { heap := h', gens := s.gens, drawn := s.drawn, toks := tk, os := s.os }) :
    wpAny (model prog w) A (eval x env) (fun u s₁ => wpAny (model prog w) A (truthy u) (fun t s₂ => F t u s₂) E s₁) E s :=
  HE b1 g1 D hl fun ρ1 news1 hh1 tk1 u D1 L1 r1 => by
    rw [tr_bool r1 ht]
    exact wpAny_truthy_bool (q _ _ _ _ D1 L1)
noncomputable def ArmE (prog : Program) (w : World) (K : Frag) (NM : List Str) (c : Cfg) (env : Env) (L : Addr) (h₀ : Heap) (A : Around) (cf : CF) (n k : Nat) (me : ME) : Prop :=
  ∀ {e l σ r}, ckE1 K NM env.scope.names (ck K NM env.scope.names k) me e = true → evE1 c cf (ev c cf n) l me σ = some r → ∀ {s : Shared} {ρ news m}, Dy NM h₀ L ρ σ m news s.heap → LocR NM env L ρ news l m → ∀ {Q : Value → Shared → Prop} {E : Value → Shared → Prop}, Post NM h₀ L m ρ news r.2 r.1 Q s →
    wpAny (model prog w) A (eval e env) Q E s
noncomputable def ArmT (prog : Program) (w : World) (K : Frag) (NM : List Str) (c : Cfg) (env : Env) (L : Addr) (h₀ : Heap) (A : Around) (cf : CF) (n k : Nat) (me : ME) : Prop :=
  ∀ {e l σ r}, ckT1 (ck K NM env.scope.names k) me e = true → evT1 c cf (ev c cf n) l me σ = some r → ∀ {s : Shared} {ρ news m}, Dy NM h₀ L ρ σ m news s.heap → LocR NM env L ρ news l m → ∀ {Q : Bool → Shared → Prop} {E : Value → Shared → Prop}, PostB NM h₀ L m ρ news r.2 r.1 Q s →
    wpAny (model prog w) A (PySem.isTrue e env (eval e env)) Q E s
section arms
variable {n k : Nat}
theorem arm_nm (C : Cx prog w K NM env L h₀ A d) (i : Nat) : ArmE prog w K NM c env L h₀ A cf n k (.nm i) := fun hb he s ρ news m D hl Q E q =>
  osE hb fun p hp hb => mpE he fun v hv he => by
    obtain ⟨b1, b3⟩ := rdB_ok hb
    obtain ⟨u, hu', hr⟩ := hl _ _ hv _ b1
    rw [hp]
    rw [← he] at q
    exact rd_ok C D hu' b3 (q.now (tk := s.toks) D hr)
theorem arm_cst (C : Cx prog w K NM env L h₀ A d) (v : V) : ArmE prog w K NM c env L h₀ A cf n k (.cst v) := fun hb he s ρ news m D hl Q E q => gdE he fun _ he => cst_ok C hb D (by rw [← Option.some.inj he] at q; exact q)
theorem arm_attr (G : CfgOK K NM c) (C : Cx prog w K NM env L h₀ A d) (HE : EvOK prog w K NM c env L h₀ A cf n) (o : ME) (a : Nat) : ArmE prog w K NM c env L h₀ A cf n k (.attr o a) := fun hb he s ρ news m D hl Q E q =>
  osE hb fun p hp hb => anE hb fun b1 hb => anE hb fun b2 b3 => bdE he fun v g1 he => mpE he fun u g2 he => by
    rw [hp]
    rw [← he] at q
    exact attr_ok b1 (HE b3 g1 D hl fun ρ1 news1 hh1 tk1 y1 D1 L1 r1 => getA_ok C.X G.W (s := ⟨hh1, s.gens, s.drawn, tk1, s.os⟩) D1 r1 (nm_ok b2) g2 (q.le L1))
theorem cst_val {f : ME} {v : V} (hv : f = .cst v) {l : Loc} {σ : H} {p : V × H} (g : (ev c cf n).1 l f σ = some p) : p.1 = v := by
  cases n with
  | zero => cases g
  | succ n => subst hv; exact gdE g fun _ g => by rw [← Option.some.inj g]
theorem arm_call (C : Cx prog w K NM env L h₀ A d) (HC : CallsOK prog w K NM d cf) (HE : EvOK prog w K NM c env L h₀ A cf n) (f : ME) (es : List ME) : ArmE prog w K NM c env L h₀ A cf n k (.call f es) := fun hb he s ρ news m D hl Q E q =>
  osE hb fun p hp hb => anE hb fun b0 hb => osE hb fun v hv hb => anE hb fun b1 hb => anE hb fun b2 b3 => bdE he fun v g1 he => bdE he fun vs g2 he => isE' b0 fun nm hnm => by
    have b2 : (ck K NM env.scope.names k).1 f (.Name nm.1 nm.2) = true := by rw [← hnm]; exact b2
    rw [hp, hnm]
    exact Call_ (HE b2 g1 D hl fun ρ1 news1 hh1 tk1 y1 D1 L1 r1 => callW_ok b3 r1 (by rw [cst_val hv g1]; exact b1) (evL_ok HE b3 g2 (s := ⟨hh1, s.gens, s.drawn, tk1, s.os⟩) D1 (L1.loc hl) fun ρ2 news2 hh2 tk2 ys D2 L2 r2 => ⟨C.X.keeps D2.F.keep, HC C (s := ⟨hh2, s.gens, s.drawn, tk2, s.os⟩) D2 (L2.vr r1) r2 he (q.le (L1.trans L2))⟩))
theorem arm_meth (G : CfgOK K NM c) (C : Cx prog w K NM env L h₀ A d) (HC : CallsOK prog w K NM d cf) (HE : EvOK prog w K NM c env L h₀ A cf n) (o : ME) (a : Nat) (es : List ME) : ArmE prog w K NM c env L h₀ A cf n k (.meth o a es) := fun hb he s ρ news m D hl Q E q =>
  osE hb fun p hp hb => osE hb fun p2 hp2 hb => anE hb fun b1 hb => anE hb fun b2 hb => anE hb fun b3 hb => anE hb fun b4 hb => anE hb fun b5 b6 => bdE he fun v g1 he => bdE he fun f g2 he => bdE he fun vs g3 he => by
    rw [hp, show p.1 = _ from hp2]
    exact meth_ok b1 b4 (of_decide_eq_true b6) b5 (HE b3 g1 D hl fun ρ1 news1 hh1 tk1 y1 D1 L1 r1 pl => getM_ok C.X G.W (s := ⟨hh1, s.gens, s.drawn, tk1, s.os⟩) D1 r1 (nm_ok b2) G.app G.pop g2 fun tk y ys hy hys =>
      callW_ok b4 hy (kept_of G g2) (evL_ok HE b4 g3 (s := ⟨hh1, s.gens, s.drawn, tk, s.os⟩) D1 (L1.loc hl) fun ρ2 news2 hh2 tk2 zs D2 L2 r2 => ⟨C.X.keeps D2.F.keep, HC C (s := ⟨hh2, s.gens, s.drawn, tk2, s.os⟩) D2 (L2.vr hy) ((L2.vsr hys).app r2) he (q.le (L1.trans L2))⟩))
theorem arm_bin (HE : EvOK prog w K NM c env L h₀ A cf n) (op : Operator) (a b : ME) : ArmE prog w K NM c env L h₀ A cf n k (.bin op a b) := fun hb he s ρ news m D hl Q E q =>
  osE hb fun p hp hb => anE hb fun b0 hb => anE hb fun b1 b2 => bdE he fun v1 g1 he => bdE he fun v2 g2 he => by
    rw [hp, ← show op = p.2.1 from of_decide_eq_true b0]
    exact wpAny_BinOp (two HE b1 b2 g1 g2 D hl fun _ _ h2 tk2 _ _ D2 L2 r1 r2 => binV_ok (s := ⟨h2, s.gens, s.drawn, tk2, s.os⟩) D2 r1 r2 he (q.le L2))
theorem arm_cmp (G : CfgOK K NM c) (C : Cx prog w K NM env L h₀ A d) (HE : EvOK prog w K NM c env L h₀ A cf n) (op : CmpOp) (a b : ME) : ArmE prog w K NM c env L h₀ A cf n k (.cmp op a b) := fun hb he s ρ news m D hl Q E q =>
  bdE he fun v1 g1 he => bdE he fun v2 g2 he => mpE he fun v g3 he => mpE g3 fun t ht g3 => by
    rw [← he, ← g3] at q
    exact (cmp1_ok G C HE hb g1 g2 ht D hl).1 q
theorem bool2 {e : PySem.Expr} {op : BoolOp} {r : CkR} {f : ME → PySem.Expr → Bool} {a b : ME} (hb : (ob (vw e).bool fun p => decide (p.1.1 = op) && ob (arg2 p.1.2.1) fun y => f a y.1.1 && f b y.1.2) = true) {P : Prop} (k : ∀ x y pos, e = .BoolOp op [x, y] pos → f a x = true → f b y = true → P) : P :=
  osE hb fun p hp hb => anE hb fun b0 hb => osE hb fun y hy hb => anE hb fun b1 b2 => k y.1 y.2 p.2.2 (by rw [hp, show p.1 = op from of_decide_eq_true b0, show p.2.1 = [y.1, y.2] from hy]) b1 b2
theorem arm_and (G : CfgOK K NM c) (HE : EvOK prog w K NM c env L h₀ A cf n) (a b : ME) : ArmE prog w K NM c env L h₀ A cf n k (.and a b) := fun hb he s ρ news m D hl Q E q =>
  bool2 (r := ck K NM env.scope.names k) hb fun x y pos hx b1 b2 => bdE he fun v g1 he => bsE he fun t ht he => by
    rw [hx]
    exact BoolOp_and (ev_bool G HE b1 g1 ht D hl (F := fun c v s₂ => if c = true then wpAny (model prog w) A (eval (.BoolOp .And [y] pos) env) Q E s₂ else Q v s₂) fun ρ1 news1 hh1 tk1 D1 L1 => cdE he
      (fun h he => ifT h (BoolOp_one (HE b2 he (s := ⟨hh1, s.gens, s.drawn, tk1, s.os⟩) D1 (L1.loc hl) (q.le L1)))) fun h he => ifF h (by rw [← Option.some.inj he, ht] at q; exact q _ _ _ _ _ D1 L1 (.bool _)))
theorem arm_or (G : CfgOK K NM c) (HE : EvOK prog w K NM c env L h₀ A cf n) (a b : ME) : ArmE prog w K NM c env L h₀ A cf n k (.or a b) := fun hb he s ρ news m D hl Q E q =>
  bool2 (r := ck K NM env.scope.names k) hb fun x y pos hx b1 b2 => bdE he fun v g1 he => bsE he fun t ht he => by
    rw [hx]
    exact BoolOp_or (ev_bool G HE b1 g1 ht D hl (F := fun c v s₂ => if c = true then Q v s₂ else wpAny (model prog w) A (eval (.BoolOp .Or [y] pos) env) Q E s₂) fun ρ1 news1 hh1 tk1 D1 L1 => cdE he
      (fun h he => ifT h (by rw [← Option.some.inj he, ht] at q; exact q _ _ _ _ _ D1 L1 (.bool _))) fun h he => ifF h (BoolOp_one (HE b2 he (s := ⟨hh1, s.gens, s.drawn, tk1, s.os⟩) D1 (L1.loc hl) (q.le L1))))
theorem un1 {e : PySem.Expr} {op : UnaryOp} {f : ME → PySem.Expr → Bool} {a : ME} (hb : (ob (vw e).un fun p => decide (p.1.1 = op) && f a p.1.2.1) = true) {P : Prop} (k : ∀ x pos, e = .UnaryOp op x pos → f a x = true → P) : P :=
  osE hb fun p hp hb => anE hb fun b0 b1 => k p.2.1 p.2.2 (by rw [hp, show p.1 = op from of_decide_eq_true b0]) b1
theorem arm_not (HE : EvOK prog w K NM c env L h₀ A cf n) (a : ME) : ArmE prog w K NM c env L h₀ A cf n k (.not a) := fun hb he s ρ news m D hl Q E q =>
  un1 hb fun x pos hx b1 => bdE he fun v g1 he => msE he fun t ht he => by
    rw [hx]
    rw [← he] at q
    exact UnaryOp_ (HE b1 g1 D hl fun ρ1 news1 hh1 tk1 u D1 L1 r1 => not_of (by rw [tr_bool r1 ht]; exact wpAny_truthy_bool (q _ _ _ _ _ D1 L1 (.bool _))))
theorem arm_neg (HE : EvOK prog w K NM c env L h₀ A cf n) (a : ME) : ArmE prog w K NM c env L h₀ A cf n k (.neg a) := fun hb he s ρ news m D hl Q E q =>
  un1 hb fun x pos hx b1 => bdE he fun v g1 he => msE he fun t ht he => by
    rw [hx]
    rw [← he] at q
    exact UnaryOp_ (HE b1 g1 D hl fun ρ1 news1 hh1 tk1 u D1 L1 r1 => by obtain ⟨tk, hu⟩ := int_of r1 ht; rw [hu]; exact neg_int (q _ _ _ _ _ D1 L1 (.int _ _)))
theorem arm_ite (HE : EvOK prog w K NM c env L h₀ A cf n) (HT : TsOK prog w K NM c env L h₀ A cf n) (t a b : ME) : ArmE prog w K NM c env L h₀ A cf n k (.ite t a b) := fun hb he s ρ news m D hl Q E q =>
  osE hb fun p hp hb => anE hb fun b1 hb => anE hb fun b2 b3 => bdE he fun v g1 he => by
    rw [hp]
    refine wpAny_IfExp (HT b1 g1 D hl fun ρ1 news1 hh1 tk1 D1 L1 => ?_)
    cases hv : v.1 with
    | true => rw [hv] at he; exact HE b2 he (s := ⟨hh1, s.gens, s.drawn, tk1, s.os⟩) D1 (L1.loc hl) (q.le L1)
    | false => rw [hv] at he; exact ifF rfl (HE b3 he (s := ⟨hh1, s.gens, s.drawn, tk1, s.os⟩) D1 (L1.loc hl) (q.le L1))
theorem arm_list (HE : EvOK prog w K NM c env L h₀ A cf n) (es : List ME) : ArmE prog w K NM c env L h₀ A cf n k (.list es) := fun hb he s ρ news m D hl Q E q =>
  osE hb fun p hp hb => bdE he fun v g1 he => gdE he fun hz he => by
    rw [hp]
    rw [← Option.some.inj he] at q
    exact List_ (evL_ok HE hb g1 D hl fun ρ2 news2 hh2 tk2 ys D2 L2 r2 => newList_ok (s := ⟨hh2, s.gens, s.drawn, tk2, s.os⟩) D2 r2 hz (q.le L2))
theorem arm_tup (HE : EvOK prog w K NM c env L h₀ A cf n) (es : List ME) : ArmE prog w K NM c env L h₀ A cf n k (.tup es) := fun hb he s ρ news m D hl Q E q =>
  osE hb fun p hp hb => bdE he fun v g1 he => gdE he fun hz he => by
    rw [hp]
    rw [← Option.some.inj he] at q
    exact Tuple_ (evL_ok HE hb g1 D hl fun ρ2 news2 hh2 tk2 ys D2 L2 r2 => newTup_ok (s := ⟨hh2, s.gens, s.drawn, tk2, s.os⟩) D2 r2 hz (q.le L2))
theorem arm_dict (C : Cx prog w K NM env L h₀ A d) : ArmE prog w K NM c env L h₀ A cf n k .dict0 := fun hb he s ρ news m D hl Q E q =>
  isE' hb fun p hp => by
    rw [hp]
    rw [← Option.some.inj he] at q
    obtain ⟨p, loose, mean, mg, mb, T⟩ := C.Tp
    exact dict0_ok T.nolimit D q
theorem arm_sub (G : CfgOK K NM c) (C : Cx prog w K NM env L h₀ A d) (HE : EvOK prog w K NM c env L h₀ A cf n) (o i : ME) : ArmE prog w K NM c env L h₀ A cf n k (.sub o i) := fun hb he s ρ news m D hl Q E q =>
  osE hb fun p hp hb => anE hb fun b1 hb => anE hb fun b2 b3 => bdE he fun v1 g1 he => bdE he fun v2 g2 he => mpE he fun v g3 he => by
    rw [hp]
    rw [← he] at q
    exact Subscript_ (two HE b1 b2 g1 g2 D hl fun _ _ h2 tk2 _ _ D2 L2 r1 r2 => subV_ok C.X G.W (s := ⟨h2, s.gens, s.drawn, tk2, s.os⟩) D2 r1 r2 g3 (q.le L2) fun _ _ _ => (plainE_ok b3).slice _ _)
theorem arm_from (HE : EvOK prog w K NM c env L h₀ A cf n) (o i : ME) : ArmE prog w K NM c env L h₀ A cf n k (.from o i) := fun hb he s ρ news m D hl Q E q =>
  osE hb fun p hp hb => anE hb fun b0 hb => osE hb fun sl hs hb => anE hb fun b1 hb => obE hb fun y hy hb => anE hb fun b2 b3 => bdE he fun v1 g1 he => bdE he fun v2 g2 he => isE' b0 fun nm hnm => by
    have b2 : (ck K NM env.scope.names k).1 o (.Name nm.1 nm.2) = true := by rw [← hnm]; exact b2
    have hy : sl.1 = some y := hy
    have h2 : sl.2.1 = none := Option.isNone_iff_eq_none.mp b1
    rw [hp, hnm, show p.2.1 = _ from hs, hy, h2]
    exact Subscript_ (HE b2 g1 D hl fun ρ1 news1 hh1 tk1 y1 D1 L1 r1 => wpAny_Slice (evalPart_some_step (HE b3 g2 D1 (L1.loc hl) fun ρ2 news2 hh2 tk2 y2 D2 L2 r2 => evalPart_none_step (evalPart_none_step
      (fromV_ok (s := ⟨hh2, s.gens, s.drawn, tk2, s.os⟩) D2 (L2.vr r1) r2 he (q.le (L1.trans L2)) (fun _ _ => rfl) (fun _ _ => rfl))))))
theorem armE (G : CfgOK K NM c) (C : Cx prog w K NM env L h₀ A d) (HC : CallsOK prog w K NM d cf) (HE : EvOK prog w K NM c env L h₀ A cf n) (HT : TsOK prog w K NM c env L h₀ A cf n) (me : ME) : ArmE prog w K NM c env L h₀ A cf n k me := by
  cases me with
  | nm i => exact arm_nm C i
  | cst v => exact arm_cst C v
  | attr o a => exact arm_attr G C HE o a
  | call f es => exact arm_call C HC HE f es
  | meth o a es => exact arm_meth G C HC HE o a es
  | bin op a b => exact arm_bin HE op a b
  | cmp op a b => exact arm_cmp G C HE op a b
  | and a b => exact arm_and G HE a b
  | or a b => exact arm_or G HE a b
  | not a => exact arm_not HE a
  | neg a => exact arm_neg HE a
  | ite t a b => exact arm_ite HE HT t a b
  | list es => exact arm_list HE es
  | tup es => exact arm_tup HE es
  | dict0 => exact arm_dict C
  | sub o i => exact arm_sub G C HE o i
  | «from» o i => exact arm_from HE o i
  | _ => exact fun _ he => by cases he
theorem andLast {b : Bool} {s : Shared} {pos : Pos} {wh : Sem Value} {Q : Bool → Shared → Prop} {E : Value → Shared → Prop} (q : Q b s) : if b = true then wpAny (model prog w) A (PySem.isTrue (.BoolOp .And [] pos) env wh) Q E s else Q false s := by
  cases b with
  | true => exact isTrue_and_nil q
  | false => exact q
theorem orLast {b : Bool} {s : Shared} {pos : Pos} {wh : Sem Value} {Q : Bool → Shared → Prop} {E : Value → Shared → Prop} (q : Q b s) : if b = true then Q true s else wpAny (model prog w) A (PySem.isTrue (.BoolOp .Or [] pos) env wh) Q E s := by
  cases b with
  | true => exact q
  | false => exact isTrue_or_nil q
theorem arm_Tand (HT : TsOK prog w K NM c env L h₀ A cf n) (a b : ME) : ArmT prog w K NM c env L h₀ A cf n k (.and a b) := fun hb he s ρ news m D hl Q E q =>
  bool2 (r := ck K NM env.scope.names k) hb fun x y pos hx b1 b2 => bdE he fun v g1 he => by
    rw [hx]
    exact isTrue_and (HT b1 g1 D hl fun ρ1 news1 hh1 tk1 D1 L1 => cdE he (fun h he => ifT h (isTrue_and (HT b2 he (s := ⟨hh1, s.gens, s.drawn, tk1, s.os⟩) D1 (L1.loc hl) fun ρ3 news3 hh3 tk3 D3 L3 => andLast (q _ _ _ tk3 D3 (L1.trans L3))))) fun h he => ifF h (by rw [← Option.some.inj he, h] at q; exact q _ _ _ _ D1 L1))
theorem arm_Tor (HT : TsOK prog w K NM c env L h₀ A cf n) (a b : ME) : ArmT prog w K NM c env L h₀ A cf n k (.or a b) := fun hb he s ρ news m D hl Q E q =>
  osE hb fun p hp hb => anE hb fun b0 hb => bdE he fun v g1 he => by
    rw [hp, show p.1 = .Or from of_decide_eq_true b0]
    revert hb
    generalize p.2.1 = xs
    generalize p.2.2 = pos
    exact fun hb => match xs, hb with
    | [x, y], hb => anE hb fun b1 b2 => isTrue_or (HT b1 g1 D hl fun ρ1 news1 hh1 tk1 D1 L1 => cdE he (fun h he => ifT h (by rw [← Option.some.inj he, h] at q; exact q _ _ _ _ D1 L1)) fun h he => ifF h (isTrue_or (HT b2 he (s := ⟨hh1, s.gens, s.drawn, tk1, s.os⟩) D1 (L1.loc hl) fun ρ3 news3 hh3 tk3 D3 L3 => orLast (q _ _ _ tk3 D3 (L1.trans L3)))))
    | [x, y, z], hb => anE hb fun b1 b2 => isTrue_or (HT b1 g1 D hl fun ρ1 news1 hh1 tk1 D1 L1 => cdE he (fun h he => ifT h (by rw [← Option.some.inj he, h] at q; exact q _ _ _ _ D1 L1)) fun h he => ifF h (HT b2 he (s := ⟨hh1, s.gens, s.drawn, tk1, s.os⟩) D1 (L1.loc hl) (q.le L1)))
theorem arm_Tnot (HT : TsOK prog w K NM c env L h₀ A cf n) (a : ME) : ArmT prog w K NM c env L h₀ A cf n k (.not a) := fun hb he s ρ news m D hl Q E q =>
  un1 hb fun x pos hx b1 => mpE he fun v g1 he => by
    rw [hx]
    rw [← he] at q
    exact isTrue_not (HT b1 g1 D hl q)
theorem plain_eq {e : PySem.Expr} (h : plainT e = true) (env : Env) (wh : Sem Value) : PySem.isTrue e env wh = (do let v ← wh; standAt e.pos; holding [v] (truthy v)) :=
  orE h (fun h => isE' h fun p he => by rw [he]; rfl) fun h => orE h (fun h => isE' h fun p he => by rw [he]; rfl) fun h => orE h (fun h => isE' h fun p he => by rw [he]; rfl) fun h => orE h (fun h => isE' h fun p he => by rw [he]; rfl) fun h => isE' h fun c ⟨_, _, he⟩ => by rw [he]; rfl
theorem arm_Tplain (HE : EvOK prog w K NM c env L h₀ A cf n) {me : ME} {e : PySem.Expr} {l : Loc} {σ : H} {r : Bool × H} (hb : (plainT e && (ck K NM env.scope.names k).1 me e) = true) (he : ((ev c cf n).1 l me σ).bind tr1 = some r) {s : Shared} {ρ news m} (D : Dy NM h₀ L ρ σ m news s.heap) (hl : LocR NM env L ρ news l m) {Q : Bool → Shared → Prop} {E : Value → Shared → Prop} (q : PostB NM h₀ L m ρ news r.2 r.1 Q s) :
    wpAny (model prog w) A (PySem.isTrue e env (eval e env)) Q E s :=
  anE hb fun b1 b2 => bdE he fun v g1 he => msE he fun t ht he => by
    rw [← he] at q
    exact isTrue_plain (HE b2 g1 D hl fun ρ1 news1 hh1 tk1 u D1 L1 r1 => by rw [tr_bool r1 ht]; exact wpAny_truthy_bool (q _ _ _ _ D1 L1)) (plain_eq b1 _ _)
theorem armT (G : CfgOK K NM c) (C : Cx prog w K NM env L h₀ A d) (HE : EvOK prog w K NM c env L h₀ A cf n) (HT : TsOK prog w K NM c env L h₀ A cf n) (me : ME) : ArmT prog w K NM c env L h₀ A cf n k me := fun {e l σ r} hb he {s ρ news m} D hl {Q E} q => by
  cases me with
  | and a b => exact arm_Tand HT a b hb he D hl q
  | or a b => exact arm_Tor HT a b hb he D hl q
  | not a => exact arm_Tnot HT a hb he D hl q
  | cmp op a b =>
    exact bdE he fun v1 g1 he => bdE he fun v2 g2 he => mpE he fun t ht he => by
      rw [← he] at q
      exact (cmp1_ok G C HE hb g1 g2 ht D hl).2 q
  | chain o1 o2 a b z => exact bdE he fun v1 g1 he => bdE he fun v2 g2 he => bdE he fun t ht he => chain_ok G C HE hb g1 g2 ht he D hl q
  | ite t a b => cases he
  | stop =>
    cases n with
    | zero => cases he
    | succ n => cases he
  | _ => exact arm_Tplain HE hb he D hl q
end arms
theorem ev_ok (G : CfgOK K NM c) (C : Cx prog w K NM env L h₀ A d) (HC : CallsOK prog w K NM d cf) (n : Nat) : EvOK prog w K NM c env L h₀ A cf n ∧ TsOK prog w K NM c env L h₀ A cf n := by
  induction n with
  | zero => exact ⟨fun _ h => (by cases h), fun _ h => (by cases h)⟩
  | succ n ih =>
    obtain ⟨HE, HT⟩ := ih
    refine ⟨fun {k me e l σ r σ'} hb he => ?_, fun {k me e l σ r σ'} hb he => ?_⟩
    · cases k with
      | zero => cases hb
      | succ k => exact armE G C HC HE HT me hb he
    · cases k with
      | zero => cases hb
      | succ k => exact armT G C HE HT me hb he
end ev
section
variable {NM : List Str} {h₀ : Heap} {L : Addr} {ρ ρ₀ : List RA} {σ : H} {m : Str → Option Value} {news news₀ : Led} {h h' : Heap}
theorem Dy.push (D : Dy NM h₀ L ρ σ m news h) (o : Obj) : Dy NM h₀ L ρ σ m news (h.push o) :=
  ⟨D.F.push o, fun p hp => ⟨Heap.get?_push_of_some _ (D.N p hp).1, (D.N p hp).2⟩, D.nd, D.P⟩
theorem Pt.sub (P : Pt NM ρ σ news) {news' : Led} (k : ∀ q ∈ news, q.1 ∈ adrs ρ → q ∈ news') : Pt NM ρ σ news' :=
  ⟨P.len, fun i o hi => by
    obtain ⟨p, hp, R⟩ := P.obj i o hi
    have := R.mono (news' := news') [] fun q hq hz => k q hq (adr_mem hp _ hz)
    rw [List.append_nil] at this
    exact ⟨p, hp, this⟩, P.nd⟩
theorem Dy.extra (D : Dy NM h₀ L ρ σ m news h) (o : Obj) (hf : o.isFreed = false) : Dy NM h₀ L ρ σ m ((h.objs.size, o) :: news) (h.push o) ∧ h.objs.size ∉ adrs ρ ∧ h.objs.size ∉ news.map (·.1) ∧ Le ρ ρ news ((h.objs.size, o) :: news) := by
  have fr := fresh_size D
  exact ⟨⟨D.F.push o, D.N.push D.F o hf, by rw [List.map_cons, List.nodup_cons]; exact ⟨fr, D.nd⟩, D.P.sub fun q hq _ => .tail _ hq⟩, fun q => fr (D.P.adr_led _ q), fr, ⟨⟨[], (List.append_nil _).symm⟩, fun p hp hn => ⟨.tail _ hp, hn⟩⟩⟩
theorem Dy.offUpd (D : Dy NM h₀ L ρ σ m news h) {it : Addr} {o₀ o : Obj} (hm : (it, o₀) ∈ news) (ho : it ∉ adrs ρ) (hs : Heap.SameBut it h h') (hg : h'.get? it = some o) : Dy NM h₀ L ρ σ m (upd it o news) h' := by
  have Dn := D.N _ hm
  refine ⟨D.F.change hs Dn.2.1 Dn.2.2, fun q hq => ?_, by rw [upd_fst]; exact D.nd, D.P.sub fun q hq hz => upd_other hq fun e => ho (e ▸ hz)⟩
  obtain ⟨q0, hq0, rfl⟩ := List.mem_map.mp hq
  by_cases e : q0.1 = it
  · rw [if_pos e]
    exact ⟨hg, Dn.2⟩
  · rw [if_neg e]
    exact ⟨(hs.2 q0.1 e).trans (D.N _ hq0).1, (D.N _ hq0).2⟩
theorem Le.offUpd (X : Le ρ₀ ρ news₀ news) {it : Addr} {o : Obj} (hn : it ∉ news₀.map (·.1)) : Le ρ₀ ρ news₀ (upd it o news) :=
  ⟨X.pre, fun p hp hz => let ⟨a, b⟩ := X.keep p hp hz; ⟨upd_other a fun e => hn (List.mem_map.mpr ⟨p, hp, e⟩), b⟩⟩
noncomputable def dropA (it : Addr) (news : Led) : Led := news.filter fun p => !(p.1 == it)
theorem dropA_mem {it : Addr} {news : Led} {p : Addr × Obj} : p ∈ dropA it news ↔ p ∈ news ∧ p.1 ≠ it := by
  unfold dropA
  rw [List.mem_filter]
  simp
theorem Dy.offDrop (D : Dy NM h₀ L ρ σ m news h) {it : Addr} {o₀ : Obj} (hm : (it, o₀) ∈ news) (ho : it ∉ adrs ρ) (hs : Heap.ExtBut it h h') : Dy NM h₀ L ρ σ m (dropA it news) h' := by
  have Dn := D.N _ hm
  refine ⟨⟨?_, fun b o hb => ?_, D.F.above⟩, fun p hp => ?_, ?_, D.P.sub fun q hq hz => dropA_mem.mpr ⟨hq, fun e => ho (e ▸ hz)⟩⟩
  · obtain ⟨oL, a1, a2, hL, a3⟩ := D.F.ns
    exact ⟨oL, a1, a2, hs L oL (fun e => Dn.2.1 e.symm) hL, a3⟩
  · refine hs b o (fun e => ?_) (D.F.keep b o hb)
    have z := Dn.2.2
    rw [← e] at z
    rw [hb] at z
    cases z
  · obtain ⟨h1, h2⟩ := dropA_mem.mp hp
    have := D.N p h1
    exact ⟨hs _ _ h2 this.1, this.2⟩
  · exact D.nd.sublist (List.Sublist.map _ List.filter_sublist)
theorem Le.offDrop (X : Le ρ₀ ρ news₀ news) {it : Addr} (hn : it ∉ news₀.map (·.1)) : Le ρ₀ ρ news₀ (dropA it news) :=
  ⟨X.pre, fun p hp hz => let ⟨a, b⟩ := X.keep p hp hz; ⟨dropA_mem.mpr ⟨a, fun e => hn (List.mem_map.mpr ⟨p, hp, e⟩)⟩, b⟩⟩
noncomputable def nc (o : Obj) : Prop := (∀ u, o.data ≠ .cell u) ∧ ∀ es ep, o.data ≠ .dict es ep
theorem nc_fields {o : Obj} {f : Array Value} (h : o.data = .fields f) : nc o := by
  refine And.intro (fun u e => ?_) (fun es ep e => ?_)
  · rw [h] at e; cases e
  · rw [h] at e; cases e
theorem LocR.off {env : Env} {news' : Led} {it : Addr} {l : Loc} (hl : LocR NM env L ρ news l m) (hk : ∀ p ∈ news, p.1 ≠ it → p ∈ news') (ho : ∀ o, (it, o) ∈ news → nc o) : LocR NM env L ρ news' l m := by
  intro i v e x hx
  obtain ⟨u, h, hv⟩ := hl i v e x hx
  refine ⟨u, ?_, hv⟩
  rcases h with h | ⟨h1, c, o, h2, h3, h4, h5⟩ | ⟨h1, o, m₂, h2, h3, h4, h5⟩
  · exact .inl h
  · refine .inr (.inl ⟨h1, c, o, h2, hk _ h3 fun e => ?_, h4, h5⟩)
    have e : c = it := e
    subst e
    exact (ho o h3).1 _ h5
  · refine .inr (.inr ⟨h1, o, m₂, hk _ h2 fun e => ?_, h3, h4, h5⟩)
    have e : env.locals = it := e
    rw [e] at h2
    obtain ⟨es, ep, h6, _⟩ := h4
    exact (ho o h2).2 _ _ h6
theorem LocR.put {env : Env} {l : Loc} (nm : nmOk NM) (SL : env.locals = L) (hl : LocR NM env L ρ news l m) {i : Nat} {x : Str} (hx : at? NM i = some x) (hk : env.scope.names.lookup x = some .local) {v : V} {u : Value} (hv : VR ρ v u) : LocR NM env L ρ news ((i, v) :: l) (fun y => if y = x then some u else m y) := by
  intro j w e y hy
  refine cdE e (fun h e2 => ?_) fun h e2 => ?_
  · rw [← nbeq.mp h, hx] at hy
    cases hy
    cases e2
    exact ⟨u, .inl ⟨hk, SL, if_pos rfl⟩, hv⟩
  · obtain ⟨u', h1, h2⟩ := hl j w e2 y hy
    refine ⟨u', ?_, h2⟩
    have : y ≠ x := fun c => by
      subst c
      rw [nbeq.mpr (nm _ _ _ hx hy)] at h
      cases h
    rcases h1 with ⟨a1, a2, a3⟩ | h1 | h1
    · exact .inl ⟨a1, a2, (if_neg this).trans a3⟩
    · exact .inr (.inl h1)
    · exact .inr (.inr h1)
end
noncomputable def tupB (NM : List Str) (ns : Nms) : List Nat → List PySem.Expr → Bool
  | [], [] => true
  | i :: is, e :: es => (ob (vw e).name fun p => locB NM ns i p.1.1) && tupB NM ns is es
  | _, _ => false
noncomputable def nmsB (NM : List Str) (ns : Nms) : List Nat → List Str → Bool
  | [], [] => true
  | i :: is, x :: es => locB NM ns i x && nmsB NM ns is es
  | _, _ => false
theorem tupB_nil {NM : List Str} {ns : Nms} {es : List PySem.Expr} (h : tupB NM ns [] es = true) : es = [] := by
  cases es with
  | nil => rfl
  | cons _ _ => cases h
theorem tupB_cons {NM : List Str} {ns : Nms} {i : Nat} {is : List Nat} {es : List PySem.Expr} (h : tupB NM ns (i :: is) es = true) {P : Prop} (k : ∀ x p r, es = .Name x p :: r → locB NM ns i x = true → tupB NM ns is r = true → P) : P := by
  cases es with
  | nil => cases h
  | cons e r => exact anE h fun h1 h2 => osE h1 fun p hp h1 => k p.1 p.2 r (by rw [hp]) h1 h2
theorem nmsB_nil {NM : List Str} {ns : Nms} {es : List Str} (h : nmsB NM ns [] es = true) : es = [] := by
  cases es with
  | nil => rfl
  | cons _ _ => cases h
theorem nmsB_cons {NM : List Str} {ns : Nms} {i : Nat} {is : List Nat} {es : List Str} (h : nmsB NM ns (i :: is) es = true) {P : Prop} (k : ∀ x r, es = x :: r → locB NM ns i x = true → nmsB NM ns is r = true → P) : P := by
  cases es with
  | nil => cases h
  | cons e r => exact anE h fun h1 h2 => k e r rfl h1 h2
theorem put_nil' {ρ : List RA} {vs : List V} {us : List Value} {l l' : Loc} (hp : putAll l [] vs = some l') (hv : VsR ρ vs us) : us = [] ∧ l = l' := by
  cases hv with
  | nil => cases hp; exact ⟨rfl, rfl⟩
  | cons _ _ => cases hp
theorem put_cons' {ρ : List RA} {i : Nat} {is : List Nat} {vs : List V} {us : List Value} {l l' : Loc} (hp : putAll l (i :: is) vs = some l') (hv : VsR ρ vs us) {P : Prop} (k : ∀ v vs u us', us = u :: us' → VR ρ v u → VsR ρ vs us' → putAll ((i, v) :: l) is vs = some l' → P) : P := by
  cases hv with
  | nil => cases hp
  | cons a r => exact k _ _ _ _ rfl a r hp
section st
variable {prog : Program} {w : World} {K : Frag} {NM : List Str} {c : Cfg} {env : Env} {L : Addr} {h₀ : Heap} {A : Around} {d : Nat} {cf : CF}
theorem storeE (SL : env.locals = L) {s : Shared} {m : Str → Option Value} {news : Led} (F : Fr h₀ L s.heap m) (N : News h₀ L s.heap news) {x : Str} {v : Value} {Q : Unit → Shared → Prop} {E : Value → Shared → Prop}
    (h : ∀ h', Fr h₀ L h' (fun y => if y = x then some v else m y) → News h₀ L h' news → Q () { s with heap := h', toks := s.toks + 1 }) (hk : env.scope.kind = .function) (hx : env.scope.names.lookup x = some .local) : wpAny (model prog w) A (storeName env x v) Q E s := by
  subst SL
  exact wpAny_storeName_local hx F.ns (fun h' hn hs => h h' (F.set hn hs) (N.set hs)) (by rw [hk]; rfl)
theorem store_ok (C : Cx prog w K NM env L h₀ A d) (SL : env.locals = L) (nm : nmOk NM) {i : Nat} {x : Str} (hb : locB NM env.scope.names i x = true) {σ : H} {s : Shared} {ρ news m} (D : Dy NM h₀ L ρ σ m news s.heap) {l : Loc} (hl : LocR NM env L ρ news l m) {v : V} {u : Value} (hv : VR ρ v u)
    {Q : Unit → Shared → Prop} {E : Value → Shared → Prop} (q : ∀ m' h' tk, Dy NM h₀ L ρ σ m' news h' → LocR NM env L ρ news ((i, v) :: l) m' → Q () { heap := h', gens := s.gens, drawn := s.drawn, toks := tk, os := s.os }) :
    wpAny (model prog w) A (storeName env x u) Q E s := by
  obtain ⟨b1, b2, b3⟩ := locB_ok hb
  exact storeE SL D.F D.N (fun h' F' N' => q _ _ _ (D.same F' N') (hl.put nm SL b1 b2 hv)) C.kf b2
noncomputable def PostN (NM : List Str) (env : Env) (h₀ : Heap) (L : Addr) (ρ : List RA) (news : Led) (σ : H) (l' : Loc) (Q : Unit → Shared → Prop) (s : Shared) : Prop := ∀ m' h' tk, Dy NM h₀ L ρ σ m' news h' → LocR NM env L ρ news l' m' → Q () { heap := h', gens := s.gens, drawn := s.drawn, toks := tk, os := s.os }
theorem order_ok (C : Cx prog w K NM env L h₀ A d) (SL : env.locals = L) (nm : nmOk NM) {f : Str → Value → Sem Unit} (hf : ∀ {x u} {Q : Unit → Shared → Prop} {E s}, wpAny (model prog w) A (storeName env x u) Q E s → wpAny (model prog w) A (f x u) Q E s) {is : List Nat} {σ : H} {ρ : List RA} {news : Led} {Q : Unit → Shared → Prop} {E : Value → Shared → Prop} {l' : Loc} :
    ∀ {xs : List Str} {vs : List V} {us : List Value} {l : Loc} {s : Shared} {m}, nmsB NM env.scope.names is xs = true → putAll l is vs = some l' → VsR ρ vs us → Dy NM h₀ L ρ σ m news s.heap → LocR NM env L ρ news l m → PostN NM env h₀ L ρ news σ l' Q s →
    wpAny (model prog w) A (assignInOrder (xs.map f) us) Q E s := by
  induction is with
  | nil =>
    intro xs vs us l s m hb hp hv D hl q
    obtain ⟨h1, h2⟩ := put_nil' hp hv
    rw [nmsB_nil hb, h1]
    exact wpAny_pure (q m s.heap s.toks D (h2 ▸ hl))
  | cons i is ih =>
    intro xs vs us l s m hb hp hv D hl q
    exact nmsB_cons hb fun x r hx b1 b2 => put_cons' hp hv fun v vs u us' hu hv hr hp => by
      rw [hx, hu]
      exact assignInOrder_cons (hf (store_ok C SL nm b1 D hl hv fun m' h' tk D' hl' => ih (s := ⟨h', s.gens, s.drawn, tk, s.os⟩) b2 hp hr D' hl' q))
theorem orderE_ok (C : Cx prog w K NM env L h₀ A d) (SL : env.locals = L) (nm : nmOk NM) {is : List Nat} {σ : H} {ρ : List RA} {news : Led} {Q : Unit → Shared → Prop} {E : Value → Shared → Prop} {l' : Loc} :
    ∀ {es : List PySem.Expr} {vs : List V} {us : List Value} {l : Loc} {s : Shared} {m}, tupB NM env.scope.names is es = true → putAll l is vs = some l' → VsR ρ vs us → Dy NM h₀ L ρ σ m news s.heap → LocR NM env L ρ news l m → PostN NM env h₀ L ρ news σ l' Q s →
    wpAny (model prog w) A (assignInOrder ((assignEach es env).map (·.2)) us) Q E s := by
  induction is with
  | nil =>
    intro es vs us l s m hb hp hv D hl q
    obtain ⟨h1, h2⟩ := put_nil' hp hv
    rw [tupB_nil hb, h1]
    exact wpAny_pure (q m s.heap s.toks D (h2 ▸ hl))
  | cons i is ih =>
    intro es vs us l s m hb hp hv D hl q
    exact tupB_cons hb fun x p r hx b1 b2 => put_cons' hp hv fun v vs u us' hu hv hr hp => by
      rw [hx, hu]
      exact (assignInOrder_cons (PyProof.Rows.assign_Name (store_ok C SL nm b1 D hl hv fun m' h' tk D' hl' => ih (s := ⟨h', s.gens, s.drawn, tk, s.os⟩) b2 hp hr D' hl' q)) : wpAny _ _ (assignInOrder (assign (.Name x p) _ :: _) _) _ _ _)
theorem putAll_len {is : List Nat} : ∀ {vs : List V} {l l' : Loc}, putAll l is vs = some l' → is.length = vs.length := by
  induction is with
  | nil =>
    intro vs l l' h
    cases vs with
    | nil => rfl
    | cons _ _ => cases h
  | cons i is ih =>
    intro vs l l' h
    cases vs with
    | nil => cases h
    | cons v vs => exact congrArg Nat.succ (ih h)
theorem tupB_len {env : Env} {is : List Nat} : ∀ {es : List PySem.Expr}, tupB NM env.scope.names is es = true → (assignEach es env).length = is.length ∧ (assignEach es env).findIdx? (·.1) = none := by
  induction is with
  | nil => intro es h; rw [tupB_nil h]; exact ⟨rfl, rfl⟩
  | cons i is ih =>
    intro es h
    exact tupB_cons h fun x p r hx b1 b2 => by
      obtain ⟨h1, h2⟩ := ih b2
      rw [hx]
      refine ⟨congrArg Nat.succ h1, ?_⟩
      show List.findIdx? (·.1) ((false, _) :: assignEach r env) = none
      rw [List.findIdx?_cons, h2]
      rfl
theorem tupOf_ok {T : Tab} (W : WfT K NM T) (X : K.In h₀) {v : V} {xs : List V} {u : Value} {σ : H} {s : Shared} {ρ news m} (D : Dy NM h₀ L ρ σ m news s.heap) (ht : tupOf T σ v = some xs) (hu : VR ρ v u) {P : Prop} (k : ∀ t us, u = .ref t → VsR ρ xs us → IsTup s.heap t us.toArray → P) : P := by
  cases v with
  | ref i => exact D.isTup (tupAt_ok ht) hu rfl fun a vs h1 _ h2 h3 => k a vs h1 h2 h3
  | val a =>
    cases hu
    obtain ⟨us, l1, r1⟩ := W.tup (X.keeps D.F.keep) ht ρ
    exact k _ us rfl r1 l1
  | _ => cases ht
theorem tuple_ok (C : Cx prog w K NM env L h₀ A d) (SL : env.locals = L) (nm : nmOk NM) {is : List Nat} {es : List PySem.Expr} {k : Nat} {pos : Pos} {xs : List V} {l l' : Loc} {σ : H} {s : Shared} {ρ news m} (hb : tupB NM env.scope.names is es = true) {t : Addr} {us : List Value} (r1 : VsR ρ xs us) (l1 : IsTup s.heap t us.toArray)
    (hp : putAll l is xs = some l') (D : Dy NM h₀ L ρ σ m news s.heap) (hl : LocR NM env L ρ news l m) {Q : Unit → Shared → Prop} {E : Value → Shared → Prop} (q : PostN NM env h₀ L ρ news σ l' Q s) :
    wpAny (model prog w) A (assign (.Tuple es k pos) env (.ref t)) Q E s := by
  obtain ⟨b1, b2⟩ := tupB_len (env := env) hb
  exact unpackN_ D.F D.N l1 C.hh (by rw [b1, putAll_len hp, List.size_toArray, r1.length]) b2 fun h' F' N' => orderE_ok C SL nm (s := ⟨h', s.gens, s.drawn, s.toks, s.os⟩) hb hp r1 (D.same F' N') hl q
noncomputable def swNames (ns : Nms) (ts : List PySem.Expr) : List Str :=
  let line := (ts.head?.map (·.pos.line)).getD 0
  ts.filterMap fun
    | .Name id pos => if ns.lookup id == some .local && pos.line == line then some id else none
    | _ => none
noncomputable def swNo (v : PySem.Expr) : Bool := (vw v).call.isSome || ob (vw v).tup fun p => p.1.1.all (foldedForSure 8)
noncomputable def swYes (ns : Nms) (ts : List PySem.Expr) (v : PySem.Expr) : Bool := ob (vw v).tup fun p => (ts.length == 2 || ts.length == 3) && (!(p.1.1.length != ts.length) && (!(p.1.1.any fun | .Starred .. => true | _ => false) && (!((swNames ns ts).length != ts.length || (swNames ns ts).eraseDups.length != (swNames ns ts).length) &&
    (!(p.1.1.all (foldedForSure 8)) && !(p.1.1.all (constantsAlone 8))))))
theorem ite_one {c : Bool} {α : Type} {a b r : α} (h1 : a = r) (h2 : b = r) : (if c = true then a else b) = r := by
  cases c with
  | true => exact h1
  | false => exact h2
theorem ite_no {c : Bool} {α : Type} {a b r : α} (h : c = false) (h2 : b = r) : (if c = true then a else b) = r := by subst h; exact h2
theorem ite_yes {c : Bool} {α : Type} {a b r : α} (h : c = true) (h2 : a = r) : (if c = true then a else b) = r := by subst h; exact h2
theorem swNo_ok {ts : List PySem.Expr} {k : Nat} {p : Pos} {v : PySem.Expr} (h : swNo v = true) (env : Env) : swappedStores [.Tuple ts k p] v env = pure none :=
  orE h (fun h => isE' h fun q hq => by rw [hq]; rfl) fun h => osE h fun q hq h => by
    rw [hq]
    exact ite_one rfl (ite_one rfl (ite_one rfl (ite_yes h rfl)))
theorem swYes_ok {ts : List PySem.Expr} {k : Nat} {p : Pos} {v : PySem.Expr} (hk : env.scope.kind = .function) (h : swYes env.scope.names ts v = true) : swappedStores [.Tuple ts k p] v env = pure (some (swNames env.scope.names ts)) :=
  osE h fun q hq h => anE h fun h1 h => anE h fun h2 h => anE h fun h3 h => anE h fun h4 h => anE h fun h5 h6 => by
    have hbk : env.blockKind = .function := by
      unfold Env.blockKind
      show (if env.scope.kind.isAnnotationScope = true then _ else env.scope.kind) = _
      rw [hk]; rfl
    rw [hq]
    exact ite_no (by rw [h1, not_ok h2, hbk]; rfl) (ite_no (not_ok h3) (ite_no (not_ok h4) (ite_no (not_ok h5) (ite_no (not_ok h6) rfl))))
end st
structure Vs (st : PySem.Stmt) where
  asg : Option {p : PySem.Expr × PySem.Expr × Pos // st = .Assign [p.1] p.2.1 p.2.2} := none
  aug : Option {p : PySem.Expr × Operator × PySem.Expr × Pos // st = .AugAssign p.1 p.2.1 p.2.2.1 p.2.2.2} := none
  ite : Option {p : PySem.Expr × List PySem.Stmt × List PySem.Stmt × Pos // st = .If p.1 p.2.1 p.2.2.1 p.2.2.2} := none
  whl : Option {p : PySem.Expr × List PySem.Stmt × Pos // st = .While p.1 p.2.1 [] p.2.2} := none
  fr : Option {p : PySem.Expr × PySem.Expr × List PySem.Stmt × Pos // st = .For p.1 p.2.1 p.2.2.1 [] p.2.2.2} := none
  ret : Option {p : PySem.Expr × Pos // st = .Return (some p.1) p.2} := none
  expr : Option {p : PySem.Expr × Pos // st = .Expr p.1 p.2} := none
noncomputable def vs (st : PySem.Stmt) : Vs st := match st with
  | .Assign [x] y p => { asg := some ⟨(x, y, p), rfl⟩ }
  | .AugAssign x o y p => { aug := some ⟨(x, o, y, p), rfl⟩ }
  | .If x y z p => { ite := some ⟨(x, y, z, p), rfl⟩ }
  | .While x y [] p => { whl := some ⟨(x, y, p), rfl⟩ }
  | .For x y z [] p => { fr := some ⟨(x, y, z, p), rfl⟩ }
  | .Return (some x) p => { ret := some ⟨(x, p), rfl⟩ }
  | .Expr x p => { expr := some ⟨(x, p), rfl⟩ }
  | _ => {}
section chk
variable (K : Frag) (NM : List Str) (ns : Nms)
noncomputable def tgtB (is : List Nat) (t : PySem.Expr) : Bool := match is with
  | [i] => ob (vw t).name fun p => locB NM ns i p.1.1
  | is => ob (vw t).tup fun p => tupB NM ns is p.1.1
noncomputable abbrev CkS := (MS → PySem.Stmt → Bool) × (List MS → List PySem.Stmt → Bool)
noncomputable def swB (rev : Bool) (is : List Nat) (es : List PySem.Expr) (v : PySem.Expr) : Bool := bif rev then swYes ns es v && (nmsB NM ns is.reverse (swNames ns es).reverse && decide (is.length = (swNames ns es).length)) else swNo v && tupB NM ns is es
noncomputable def rngN (b : Bool) : Bool := b && ((ns.lookup ("range" : Str) == some .globalImplicit) && (nsIn K mainGlobals ("range" : Str) == some none))
noncomputable def ckS1 (r : CkS) (m : MS) (st : PySem.Stmt) : Bool := match m with
  | .stop => true
  | .asgN i me => ob (vs st).asg fun p => ob (vw p.1.1).name fun x => locB NM ns i x.1.1 && (chkE K NM ns 60 me p.1.2.1 && plainE p.1.2.1)
  | .asgA o a me => ob (vs st).asg fun p => ob (vw p.1.1).attr fun x => nameIs NM a (· == x.1.2.1) && (chkE K NM ns 60 o x.1.1 && (chkE K NM ns 60 me p.1.2.1 && plainE p.1.2.1))
  | .asgS o i me => ob (vs st).asg fun p => ob (vw p.1.1).sub fun x => chkE K NM ns 60 o x.1.1 && (chkE K NM ns 60 i x.1.2.1 && (chkE K NM ns 60 me p.1.2.1 && plainE p.1.2.1))
  | .asgT rev is me => ob (vs st).asg fun p => ob (vw p.1.1).tup fun x => chkE K NM ns 60 me p.1.2.1 && (plainE p.1.2.1 && swB NM ns rev is x.1.1 p.1.2.1)
  | .augA o a op me => ob (vs st).aug fun p => ob (vw p.1.1).attr fun x => decide (op = p.1.2.1) && (nameIs NM a (· == x.1.2.1) && (chkE K NM ns 60 o x.1.1 && chkE K NM ns 60 me p.1.2.2.1))
  | .ifS t b1 b2 => ob (vs st).ite fun p => chkT K NM ns 60 t p.1.1 && (r.2 b1 p.1.2.1 && r.2 b2 p.1.2.2.1)
  | .whileS t b => ob (vs st).whl fun p => chkT K NM ns 60 t p.1.1 && r.2 b p.1.2.1
  | .forR i es b => ob (vs st).fr fun p => ob (vw p.1.1).name fun x => ob (vw p.1.2.1).call fun y => ob (vw y.1.1).name fun z => ob (arg1 y.1.2.1) fun ae => ob (arg1 es) fun me =>
    locB NM ns i x.1.1 && (rngN K ns (z.1.1 == ("range" : Str)) && (chkE K NM ns 60 me.1 ae.1 && (plainE ae.1 && r.2 b p.1.2.2.1)))
  | .forL is me b => ob (vs st).fr fun p => tgtB NM ns is p.1.1 && (chkE K NM ns 60 me p.1.2.1 && (plainE p.1.2.1 && r.2 b p.1.2.2.1))
  | .ret me => ob (vs st).ret fun p => chkE K NM ns 60 me p.1.1
  | .expr me => ob (vs st).expr fun p => chkE K NM ns 60 me p.1.1 && plainE p.1.1
noncomputable def stopM : MS → Bool
  | .stop => true
  | _ => false
noncomputable def ckC (r : CkS) (m : MS) (ms : List MS) : List PySem.Stmt → Bool
  | s :: sts => r.1 m s && r.2 ms sts
  | [] => false
noncomputable def ckB1 (r : CkS) (ms : List MS) (sts : List PySem.Stmt) : Bool := match ms with
  | [] => sts.isEmpty
  | m :: ms => stopM m || ckC r m ms sts
noncomputable def cks : Nat → CkS
  | 0 => (fun _ _ => false, fun _ _ => false)
  | n + 1 => (ckS1 K NM ns (cks n), ckB1 (cks n))
noncomputable def chkS (n : Nat) (m : MS) (st : PySem.Stmt) : Bool := (cks K NM ns n).1 m st
noncomputable def chkB (n : Nat) (ms : List MS) (sts : List PySem.Stmt) : Bool := (cks K NM ns n).2 ms sts
end chk
inductive FlR (ρ : List RA) : Fl → Flow → Prop where
  | next : FlR ρ .next .next
  | brk : FlR ρ .brk .brk
  | cont : FlR ρ .cont .cont
  | ret {v : V} {u : Value} : VR ρ v u → FlR ρ (.ret v) (.ret u)
theorem VsR.rev {ρ : List RA} {vs : List V} {us : List Value} (h : VsR ρ vs us) : VsR ρ vs.reverse us.reverse := by
  induction h with
  | nil => exact .nil
  | cons a _ ih => rw [List.reverse_cons, List.reverse_cons]; exact ih.app (.cons a .nil)
noncomputable def PostF (NM : List Str) (env : Env) (h₀ : Heap) (L : Addr) (ρ : List RA) (news : Led) (σ' : H) (l' : Loc) (fl : Fl) (Q : Flow → Shared → Prop) (s : Shared) : Prop :=
  ∀ ρ' news' h' tk m' pf, Dy NM h₀ L ρ' σ' m' news' h' → Le ρ ρ' news news' → LocR NM env L ρ' news' l' m' → FlR ρ' fl pf → Q pf { heap := h', gens := s.gens, drawn := s.drawn, toks := tk, os := s.os }
noncomputable def turnP (N : Prop) (R : Flow → Prop) : Flow → Prop
  | .next => N
  | .cont => N
  | .brk => R .next
  | .ret v => R (.ret v)
theorem FlR.on {ρ : List RA} {f : Fl} {pf : Flow} (h : FlR ρ f pf) (e : onF f = true) {N : Prop} {R : Flow → Prop} (n : N) : turnP N R pf := by
  cases h with
  | next => exact n
  | cont => exact n
  | _ => cases e
theorem FlR.out {ρ : List RA} {f : Fl} {pf : Flow} (h : FlR ρ f pf) (e : onF f = false) {N : Prop} {R : Flow → Prop} (r : ∀ pf', FlR ρ (outF f) pf' → R pf') : turnP N R pf := by
  cases h with
  | brk => exact r _ .next
  | ret hv => exact r _ (.ret hv)
  | _ => cases e
section st
variable {prog : Program} {w : World} {K : Frag} {NM : List Str} {c : Cfg} {env : Env} {L : Addr} {h₀ : Heap} {A : Around} {d : Nat} {cf : CF}
theorem PostF.le {ρ ρ1 : List RA} {news news1 : Led} {σ' : H} {l' : Loc} {fl : Fl} {Q : Flow → Shared → Prop} {s : Shared} (q : PostF NM env h₀ L ρ news σ' l' fl Q s) (X : Le ρ ρ1 news news1) {h : Heap} {tk : Nat} : PostF NM env h₀ L ρ1 news1 σ' l' fl Q { heap := h, gens := s.gens, drawn := s.drawn, toks := tk, os := s.os } :=
  fun ρ2 news2 h2 tk2 m2 pf D2 L2 hl2 hf => q ρ2 news2 h2 tk2 m2 pf D2 (X.trans L2) hl2 hf
noncomputable def StOK (prog : Program) (w : World) (K : Frag) (NM : List Str) (c : Cfg) (env : Env) (L : Addr) (h₀ : Heap) (A : Around) (cf : CF) (n : Nat) : Prop :=
  ∀ {k ms st l σ r}, chkS K NM env.scope.names k ms st = true → exS c cf n l ms σ = some r → ∀ {s : Shared} {ρ news m}, Dy NM h₀ L ρ σ m news s.heap → LocR NM env L ρ news l m → ∀ {Q : Flow → Shared → Prop} {E : Value → Shared → Prop}, PostF NM env h₀ L ρ news r.2.2 r.2.1 r.1 Q s →
    wpAny (model prog w) A (exec st env) Q E s
noncomputable def BlOK (prog : Program) (w : World) (K : Frag) (NM : List Str) (c : Cfg) (env : Env) (L : Addr) (h₀ : Heap) (A : Around) (cf : CF) (n : Nat) : Prop :=
  ∀ {k ms st l σ r}, chkB K NM env.scope.names k ms st = true → exB c cf n l ms σ = some r → ∀ {s : Shared} {ρ news m}, Dy NM h₀ L ρ σ m news s.heap → LocR NM env L ρ news l m → ∀ {Q : Flow → Shared → Prop} {E : Value → Shared → Prop}, PostF NM env h₀ L ρ news r.2.2 r.2.1 r.1 Q s →
    wpAny (model prog w) A (execs st env) Q E s
theorem body_ok {j k : Nat} (IB : BlOK prog w K NM c env L h₀ A cf j) {b : List MS} {body : List PySem.Stmt} (hb : chkB K NM env.scope.names k b body = true) {kk : Loc → H → R3} {l : Loc} {σ : H} {y : Fl × Loc × H} (he : loopR kk ((ex c cf j).B l b σ) = some y)
    {s : Shared} {ρ news m} (D : Dy NM h₀ L ρ σ m news s.heap) (hl : LocR NM env L ρ news l m) {N : Shared → Prop} {R : Flow → Shared → Prop} {E : Value → Shared → Prop}
    (k1 : ∀ l1 σ1 ρ' news' h' tk m', kk l1 σ1 = some y → Dy NM h₀ L ρ' σ1 m' news' h' → Le ρ ρ' news news' → LocR NM env L ρ' news' l1 m' → N { heap := h', gens := s.gens, drawn := s.drawn, toks := tk, os := s.os })
    (k2 : PostF NM env h₀ L ρ news y.2.2 y.2.1 y.1 R s) : wpAny (model prog w) A (execs body env) (fun f s₃ => turnP (N s₃) (fun f => R f s₃) f) E s :=
  loopE he (fun f l1 σ1 g1 hf he => IB hb g1 D hl fun ρ3 news3 h3 tk3 m3 pf D3 L3 hl3 hr => hr.on hf (k1 _ _ _ _ _ _ _ he D3 L3 hl3))
    fun f l1 σ1 g1 hf he => IB hb g1 D hl fun ρ3 news3 h3 tk3 m3 pf D3 L3 hl3 hr => hr.out hf fun pf' hr' => by
      rw [he] at k2
      exact k2 _ _ _ _ _ _ D3 L3 hl3 hr'
inductive InvW (NM : List Str) (env : Env) (h₀ : Heap) (L : Addr) (c : Cfg) (cf : CF) (t : ME) (b : List MS) (y : Fl × Loc × H) (s : Shared) (ρ : List RA) (news : Led) (n : Nat) : Nat → Shared → Prop where
  | mk {j ρ1 news1 m1 l1 σ1 h1 tk} : Dy NM h₀ L ρ1 σ1 m1 news1 h1 → Le ρ ρ1 news news1 → LocR NM env L ρ1 news1 l1 m1 → exS c cf j l1 (.whileS t b) σ1 = some y → j ≤ n → InvW NM env h₀ L c cf t b y s ρ news n j { heap := h1, gens := s.gens, drawn := s.drawn, toks := tk, os := s.os }
theorem while_ok (G : CfgOK K NM c) (C : Cx prog w K NM env L h₀ A d) (HC : CallsOK prog w K NM d cf) {n : Nat} (IB : ∀ j, j < n → BlOK prog w K NM c env L h₀ A cf j) {k : Nat} {t : ME} {b : List MS} {te : PySem.Expr} {body : List PySem.Stmt} {pos : Pos}
    (ht : chkT K NM env.scope.names 60 t te = true) (hb : chkB K NM env.scope.names k b body = true) {l : Loc} {σ : H} {y : Fl × Loc × H} (he : exS c cf n l (.whileS t b) σ = some y) {s : Shared} {ρ news m} (D : Dy NM h₀ L ρ σ m news s.heap) (hl : LocR NM env L ρ news l m)
    {Q : Flow → Shared → Prop} {E : Value → Shared → Prop} (q : PostF NM env h₀ L ρ news y.2.2 y.2.1 y.1 Q s) : wpAny (model prog w) A (exec (.While te body [] pos) env) Q E s := by
  refine wpAny_While (codeAny_whileLoop (InvW NM env h₀ L c cf t b y s ρ news n) (fun j s' I => ?_) n (.mk D .refl hl he (Nat.le_refl _)))
  cases I with
  | @mk ρ1 news1 m1 l1 σ1 h1 tk D1 L1 hl1 he1 hj =>
  cases j with
  | zero => cases he1
  | succ j =>
    exact bdE he1 fun v g1 he1 => (ev_ok G C HC j).2 (s := ⟨h1, s.gens, s.drawn, tk, s.os⟩) ht g1 D1 hl1 fun ρ2 news2 h2 tk2 D2 L2 => cdE he1
      (fun hv he1 => ifT hv (body_ok (IB j hj) hb he1 (s := ⟨h2, s.gens, s.drawn, tk2, s.os⟩) D2 (L2.loc hl1) (fun l2 σ3 ρ3 news3 h3 tk3 m3 he D3 L3 hl3 => ⟨j, Nat.lt_succ_self j, .mk D3 ((L1.trans L2).trans L3) hl3 he (Nat.le_of_lt hj)⟩) (q.le (L1.trans L2))))
      fun hv he1 => ifF hv (by
        rw [← Option.some.inj he1] at q
        exact wpAny_execs_nil (q _ _ _ _ _ _ D2 (L1.trans L2) (L2.loc hl1) .next))
noncomputable def rngO (a b : Int) : Obj := { cls := .type "range_iterator", dict := none, data := .fields #[rawInt a, rawInt b, rawInt 1], slots := #[] }
inductive InvR (NM : List Str) (env : Env) (h₀ : Heap) (L : Addr) (c : Cfg) (cf : CF) (i : Nat) (b : List MS) (y : Fl × Loc × H) (it : Addr) (s : Shared) (ρ : List RA) (news : Led) (n : Nat) : Nat → Shared → Prop where
  | mk {j k1 mm1 ρ1 news1 m1 l1 σ1 h1 tk} : Dy NM h₀ L ρ1 σ1 m1 news1 h1 → Le ρ ρ1 news news1 → LocR NM env L ρ1 news1 l1 m1 → (it, rngO ((k1 : Nat) : Int) ((mm1 : Nat) : Int)) ∈ news1 → it ∉ adrs ρ1 → exR c cf j l1 i k1 mm1 b σ1 = some y → j ≤ n → InvR NM env h₀ L c cf i b y it s ρ news n j { heap := h1, gens := s.gens, drawn := s.drawn, toks := tk, os := s.os }
theorem forR_ok (G : CfgOK K NM c) (C : Cx prog w K NM env L h₀ A d) (SL : env.locals = L) {n : Nat} (IB : ∀ j, j < n → BlOK prog w K NM c env L h₀ A cf j) {k : Nat} {i : Nat} {x : Str} {xp : Pos} {b : List MS} {body : List PySem.Stmt}
    (hi : locB NM env.scope.names i x = true) (hb : chkB K NM env.scope.names k b body = true) {l : Loc} {σ : H} {y : Fl × Loc × H} {mm : Nat} (he : exR c cf n l i 0 mm b σ = some y) {s : Shared} {ρ news m} (D : Dy NM h₀ L ρ σ m news s.heap) (hl : LocR NM env L ρ news l m) {it : Addr}
    {ρ₀ : List RA} {news₀ : Led} (L₀ : Le ρ₀ ρ news₀ news) (hin : it ∉ news₀.map (·.1)) (hm : (it, rngO 0 mm) ∈ news) (hoff : it ∉ adrs ρ)
    {Q : Flow → Shared → Prop} {E : Value → Shared → Prop} (q : PostF NM env h₀ L ρ₀ news₀ y.2.2 y.2.1 y.1 Q s) :
    codeAny (model prog w) A (.forLoop (.Name x xp) (.ref it) body [] env) (fun r s' => match r with | .ok f => Q f s' | .error e => cameBackBy (model prog w) A env E e s') s := by
  refine codeAny_forLoop (InvR NM env h₀ L c cf i b y it s ρ₀ news₀ n) (fun j s' I => ?_) n (.mk D L₀ hl hm hoff he (Nat.le_refl _))
  cases I with
  | @mk k1 mm1 ρ1 news1 m1 l1 σ1 h1 tk D1 L1 hl1 hm1 ho1 he1 hj =>
  have hit1 : IsRangeIter h1 it ((k1 : Nat) : Int) ((mm1 : Nat) : Int) 1 := (D1.N _ hm1).1
  have ncI : ∀ o, (it, o) ∈ news1 → nc o := fun o ho => by
    have e2 := (D1.N _ hm1).1
    rw [(D1.N _ ho).1] at e2
    cases e2
    exact nc_fields rfl
  cases j with
  | zero => cases he1
  | succ j =>
  cases mm1 with
  | zero =>
    rw [← Option.some.inj he1] at q
    exact wpAny_pyNext_range_end (s := ⟨h1, s.gens, s.drawn, tk, s.os⟩) C.hh hit1 (Int.le_refl 0) fun h2 EB => wpAny_execs_nil (q _ _ _ _ _ _ (D1.offDrop hm1 ho1 EB) (L1.offDrop hin) (hl1.off (fun p hp hne => dropA_mem.mpr ⟨hp, hne⟩) ncI) .next)
  | succ mm1 =>
    have he1 : loopR (fun l2 σ2 => (ex c cf j).R l2 i (k1 + 1) mm1 b σ2) ((ex c cf j).B ((i, .int (k1 : Int)) :: l1) b σ1) = some y := he1
    refine wpAny_pyNext_range_item (s := ⟨h1, s.gens, s.drawn, tk, s.os⟩) hit1 (Int.natCast_pos.mpr (Nat.succ_pos _)) fun h2 R2 SB => ?_
    have R2 : h2.get? it = some (rngO ((k1 + 1 : Nat) : Int) ((mm1 : Nat) : Int)) := by
      rw [show ((mm1 : Nat) : Int) = ((mm1 + 1 : Nat) : Int) - 1 by omega]
      exact R2
    exact PyProof.Rows.assign_Name (store_ok C SL G.W.nm hi (s := ⟨h2, s.gens, s.drawn, tk + 1, s.os⟩) (D1.offUpd hm1 ho1 SB R2) (hl1.off (fun p hp hne => upd_other hp hne) ncI) (.int (k1 : Int) tk) fun m3 h3 tk3 D3 hl3 =>
      body_ok (IB j hj) hb he1 (s := ⟨h3, s.gens, s.drawn, tk3, s.os⟩) D3 hl3 (fun l4 σ4 ρ4 news4 h4 tk4 m4 he D4 L4 hl4 =>
        have z := L4.keep _ (upd_self hm1) ho1
        ⟨j, Nat.lt_succ_self j, .mk D4 ((L1.offUpd hin).trans L4) hl4 z.1 z.2 he (Nat.le_of_lt hj)⟩) (q.le (L1.offUpd hin)))
end st
section st
variable {prog : Program} {w : World} {K : Frag} {NM : List Str} {c : Cfg} {env : Env} {L : Addr} {h₀ : Heap} {A : Around} {d : Nat} {cf : CF}
theorem owned_ok {M : Model} {t : PySem.Expr} {it la : Addr} {k : Nat} {s : Shared} (h : s.heap.IsListIter it la k) (v : Value) {Q : Unit → Shared → Prop} {E : Value → Shared → Prop} (q : Q () s) : wpAny M A (letOwnedTupleGo t (.ref it) v) Q E s := by
  have tup : wpAny M A (do
      let (.ref r, .ref a) := ((Value.ref it), v) | return
      let o ← load r
      match o.cls, o.data with
      | .type n, .fields vs =>
        if ["enumerate", "zip", "dict_itemiterator", "dict_reverseitemiterator", "odict_iterator", "itertools.zip_longest", "itertools.pairwise"].contains n && vs[0]? == some (rawInt a) then
          rule "for.unpacks-the-owned-tuple"
          updateField r 0 .none
      | _, _ => pure ()) Q E s := by
    cases v <;> first | exact wpAny_pure q | skip
    obtain ⟨o, ho, hc, hd⟩ := h
    refine wpAny_bind (wpAny_load ho ?_)
    obtain ⟨c1, d1, t1, s1⟩ := o
    simp only at hc hd
    subst hc hd
    dsimp only
    rw [if_neg (by rw [show (["enumerate", "zip", "dict_itemiterator", "dict_reverseitemiterator", "odict_iterator", "itertools.zip_longest", "itertools.pairwise"] : List String).contains "list_iterator" = false from by decide]; simp)]
    exact wpAny_pure q
  cases t <;> first | exact wpAny_pure q | exact tup
theorem tgt_of {ns : Nms} {is : List Nat} {t : PySem.Expr} {σ : H} {l l1 : Loc} {v : V} (hb : tgtB NM ns is t = true) (he : tgtPut σ l is v = some l1) {P : Prop}
    (k1 : ∀ i x p, t = .Name x p → locB NM ns i x = true → l1 = (i, v) :: l → P) (k2 : ∀ es k p q ys, t = .Tuple es k p → tupB NM ns is es = true → v = .ref q → at? σ q = some (.tup ys) → putAll l is ys = some l1 → P) : P := by
  have many : (ob (vw t).tup fun p => tupB NM ns is p.1.1) = true → ((refV v).bind fun q => (tupAt σ q.1).bind fun ys => putAll l is ys) = some l1 → P := fun hb he =>
    osE hb fun p hp hb => bsE he fun q hq he => bdE he fun ys hy he => k2 _ _ _ q ys hp hb hq (tupAt_ok hy) he
  cases is with
  | nil => exact many hb he
  | cons i is =>
    cases is with
    | nil => exact osE hb fun p hp hb => k1 i _ _ hp hb (Option.some.inj he).symm
    | cons j is => exact many hb he
theorem tgt_ok (C : Cx prog w K NM env L h₀ A d) (SL : env.locals = L) (nm : nmOk NM) {is : List Nat} {t : PySem.Expr} (hb : tgtB NM env.scope.names is t = true) {v : V} {u : Value} {l l1 : Loc} {σ : H} {s : Shared} {ρ news m} (hu : VR ρ v u) (D : Dy NM h₀ L ρ σ m news s.heap) (hl : LocR NM env L ρ news l m)
    (he : tgtPut σ l is v = some l1) {Q : Unit → Shared → Prop} {E : Value → Shared → Prop} (q : PostN NM env h₀ L ρ news σ l1 Q s) : wpAny (model prog w) A (assign t env u) Q E s :=
  tgt_of hb he (fun i x p ht hb hl1 => by
    rw [ht]
    rw [hl1] at q
    exact PyProof.Rows.assign_Name (store_ok C SL nm hb D hl hu q))
  fun es k p z ys ht hb hv hy he => D.isTup hy hu hv fun a vs hu _ r1 l1 => by
    rw [ht, hu]
    exact tuple_ok C SL nm hb r1 l1 he D hl q
inductive InvL (NM : List Str) (env : Env) (h₀ : Heap) (L : Addr) (c : Cfg) (cf : CF) (is : List Nat) (b : List MS) (y : Fl × Loc × H) (it la : Addr) (jj : Nat) (s : Shared) (ρ : List RA) (news : Led) (n : Nat) : Nat → Shared → Prop where
  | mk {j k1 o1 ρ1 news1 m1 l1 σ1 h1 tk} : Dy NM h₀ L ρ1 σ1 m1 news1 h1 → Le ρ ρ1 news news1 → LocR NM env L ρ1 news1 l1 m1 → (it, o1) ∈ news1 → it ∉ adrs ρ1 → h1.IsListIter it la k1 → VR ρ1 (.ref jj) (.ref la) → exI c cf j l1 is jj k1 b σ1 = some y → j ≤ n →
      InvL NM env h₀ L c cf is b y it la jj s ρ news n j { heap := h1, gens := s.gens, drawn := s.drawn, toks := tk, os := s.os }
theorem forL_ok (G : CfgOK K NM c) (C : Cx prog w K NM env L h₀ A d) (SL : env.locals = L) {n : Nat} (IB : ∀ j, j < n → BlOK prog w K NM c env L h₀ A cf j) {k : Nat} {is : List Nat} {t : PySem.Expr} {b : List MS} {body : List PySem.Stmt}
    (hi : tgtB NM env.scope.names is t = true) (hb : chkB K NM env.scope.names k b body = true) {l : Loc} {σ : H} {y : Fl × Loc × H} {jj : Nat} (he : exI c cf n l is jj 0 b σ = some y) {s : Shared} {ρ news m} (D : Dy NM h₀ L ρ σ m news s.heap) (hl : LocR NM env L ρ news l m) {it la : Addr} {o₀ : Obj}
    {ρ₀ : List RA} {news₀ : Led} (L₀ : Le ρ₀ ρ news₀ news) (hin : it ∉ news₀.map (·.1)) (hm : (it, o₀) ∈ news) (hoff : it ∉ adrs ρ) (hit : s.heap.IsListIter it la 0) (hla : VR ρ (.ref jj) (.ref la))
    {Q : Flow → Shared → Prop} {E : Value → Shared → Prop} (q : PostF NM env h₀ L ρ₀ news₀ y.2.2 y.2.1 y.1 Q s) :
    codeAny (model prog w) A (.forLoop t (.ref it) body [] env) (fun r s' => match r with | .ok f => Q f s' | .error e => cameBackBy (model prog w) A env E e s') s := by
  refine codeAny_forLoop_any (InvL NM env h₀ L c cf is b y it la jj s ρ₀ news₀ n) (fun j s' I => ?_) n (.mk D L₀ hl hm hoff hit hla he (Nat.le_refl _))
  cases I with
  | @mk k1 o1 ρ1 news1 m1 l1 σ1 h1 tk D1 L1 hl1 hm1 ho1 hit1 hla1 he1 hj =>
  have ncI : ∀ o, (it, o) ∈ news1 → nc o := fun o ho => by
    obtain ⟨oi, e2, _, e3⟩ := hit1
    rw [(D1.N _ ho).1] at e2
    cases e2
    exact nc_fields e3
  cases j with
  | zero => cases he1
  | succ j =>
    refine bdE he1 fun xs hxs he1 => D1.isList (listAt_ok hxs) hla1 rfl fun a1 vs n1 e1 p1 mm1 r1 il1 => ?_
    cases e1
    revert he1
    cases hv : at? xs k1 with
    | some v =>
      intro he1
      obtain ⟨u, hu, hvr⟩ := r1.at hv
      refine bdE he1 fun l2 hl2 he1 => wpAny_pyNext_list_item (s := ⟨h1, s.gens, s.drawn, tk, s.os⟩) hit1 il1 (by simpa using hu) fun h2 I2 SB => ?_
      obtain ⟨o2, g2, g3, g4⟩ := I2
      exact owned_ok (s := ⟨h2, s.gens, s.drawn, tk, s.os⟩) ⟨o2, g2, g3, g4⟩ u (tgt_ok C SL G.W.nm hi (s := ⟨h2, s.gens, s.drawn, tk, s.os⟩) hvr (D1.offUpd hm1 ho1 SB g2) (hl1.off (fun p hp hne => upd_other hp hne) ncI) hl2 fun m3 h3 tk3 D3 hl3 =>
        body_ok (IB j hj) hb he1 (s := ⟨h3, s.gens, s.drawn, tk3, s.os⟩) D3 hl3 (fun l4 σ4 ρ4 news4 h4 tk4 m4 he D4 L4 hl4 =>
          have z := L4.keep _ (upd_self hm1) ho1
          ⟨j, Nat.lt_succ_self j, .mk D4 ((L1.offUpd hin).trans L4) hl4 z.1 z.2 ⟨o2, (D4.N _ z.1).1, g3, g4⟩ (L4.vr hla1) he (Nat.le_of_lt hj)⟩) (q.le (L1.offUpd hin)))
    | none =>
      intro he1
      refine gdE he1 fun _ he1 => ?_
      rw [← Option.some.inj he1] at q
      exact wpAny_pyNext_list_end (s := ⟨h1, s.gens, s.drawn, tk, s.os⟩) C.hh hit1 il1 (by simpa using r1.at_none hv) fun h2 EB => wpAny_execs_nil (q _ _ _ _ _ _ (D1.offDrop hm1 ho1 EB) (L1.offDrop hin) (hl1.off (fun p hp hne => dropA_mem.mpr ⟨hp, hne⟩) ncI) .next)
end st
section st
variable {prog : Program} {w : World} {K : Frag} {NM : List Str} {c : Cfg} {env : Env} {L : Addr} {h₀ : Heap} {A : Around} {d : Nat} {cf : CF}
theorem Le.dom {ρ ρ' : List RA} {news news' : Led} (X : Le ρ ρ' news news') {σ : H} (P : Pt NM ρ' σ news') {b : Addr} (h : b ∈ news.map (·.1)) : b ∈ news'.map (·.1) := by
  obtain ⟨p, hp, rfl⟩ := List.mem_map.mp h
  by_cases hb : p.1 ∈ adrs ρ
  · obtain ⟨τ, rfl⟩ := X.pre
    exact P.adr_led _ (by rw [adrs_app]; exact List.mem_append_left _ hb)
  · exact List.mem_map_of_mem (X.keep p hp hb).1
theorem rangeSize_nat {m : Int} (h : 0 ≤ m) : Builtin.Range.rangeSize 0 m 1 = ((m.toNat : Nat) : Int) := by
  unfold Builtin.Range.rangeSize
  rw [if_pos (by decide)]
  split
  · omega
  · omega
theorem small_nat {m : Int} (h : 0 ≤ m) (h2 : m < 1000) : Builtin.Range.small 0 m 1 = true := by
  unfold Builtin.Range.small
  rw [rangeSize_nat h]
  obtain ⟨k, rfl⟩ := Int.eq_ofNat_of_zero_le h
  have e1 : Builtin.Range.rangeFitsLong 0 = true := by decide
  have e2 : Builtin.Range.rangeFitsLong 1 = true := by decide
  have e3 : Builtin.Range.rangeFitsLong ((k : Nat) : Int) = true := by
    unfold Builtin.Range.rangeFitsLong
    simp only [Bool.and_eq_true, decide_eq_true_eq]
    omega
  have e4 : (((k : Nat) : Int)).toNat = k := rfl
  have e5 : ((k : Nat) : Int) + (1 - 1) = k := by omega
  rw [e4, e1, e2, e3, e5, e3]
  simp
theorem interactive_no (hk : env.scope.kind = .function) : interactive env = false := by
  unfold interactive
  show (env.scope.kind == ScopeKind.module && _) = false
  rw [hk]; rfl
theorem isAdd_ok {op : Operator} (h : isAdd op = true) : op = .Add := by cases op <;> first | rfl | cases h
theorem stopM_ok {m : MS} (h : stopM m = true) : m = .stop := by cases m <;> first | rfl | cases h
theorem aug_of {T : Tab} {a b z : V} {x y : Value} {ρ ρ' : List RA} (h : (match a with | .int x => (intV b).map fun y => .int (x + y.1) | .opq j => gd (isLit 1 b) ((T.inc j).map .opq) | _ => none) = some z) (ha : VR ρ a x) (hb : VR ρ' b y) : ∃ i j t u, x = .int i t ∧ y = .int j u ∧ z = .int (i + j) := by
  cases ha with
  | int i t =>
    exact msE h fun j hj h => by
      obtain ⟨u, rfl⟩ := int_of hb hj
      exact ⟨i, j, t, u, rfl, rfl, h.symm⟩
  | _ => cases h
theorem plain_sole {v : PySem.Expr} (h : plainE v = true) (t : PySem.Expr) (l : Nat) (env : Env) : swapsWithSole [t] v l env = pure false := (plainE_ok h).swap _ _ _
noncomputable def ArmS (prog : Program) (w : World) (K : Frag) (NM : List Str) (c : Cfg) (env : Env) (L : Addr) (h₀ : Heap) (A : Around) (cf : CF) (n k : Nat) (me : MS) : Prop :=
  ∀ {st l σ r}, ckS1 K NM env.scope.names (cks K NM env.scope.names k) me st = true → exS1 c (ev c cf n) (ex c cf n) l me σ = some r → ∀ {s : Shared} {ρ news m}, Dy NM h₀ L ρ σ m news s.heap → LocR NM env L ρ news l m → ∀ {Q : Flow → Shared → Prop} {E : Value → Shared → Prop}, PostF NM env h₀ L ρ news r.2.2 r.2.1 r.1 Q s →
    wpAny (model prog w) A (exec st env) Q E s
section arms
variable {n k : Nat}
theorem arm_asgN (G : CfgOK K NM c) (C : Cx prog w K NM env L h₀ A d) (SL : env.locals = L) (HE : EvOK prog w K NM c env L h₀ A cf n) (i : Nat) (me : ME) : ArmS prog w K NM c env L h₀ A cf n k (.asgN i me) := fun hb he s ρ news m D hl Q E q =>
  osE hb fun p hp hb => osE hb fun x hx hb => anE hb fun b1 hb => anE hb fun b2 b3 => mpE he fun v g1 he => by
    rw [hp, show p.1 = _ from hx]
    rw [← he] at q
    exact wpAny_Assign_Name (HE b2 g1 D hl fun ρ1 news1 h1 tk1 y1 D1 L1 r1 => store_ok C SL G.W.nm b1 (s := ⟨h1, s.gens, s.drawn, tk1, s.os⟩) D1 (L1.loc hl) r1 fun m2 h2 tk2 D2 hl2 => q _ _ _ _ _ _ D2 L1 hl2 .next) ((plainE_ok b3).swap _ _ _)
theorem arm_asgA (G : CfgOK K NM c) (C : Cx prog w K NM env L h₀ A d) (HE : EvOK prog w K NM c env L h₀ A cf n) (o : ME) (a : Nat) (me : ME) : ArmS prog w K NM c env L h₀ A cf n k (.asgA o a me) := fun hb he s ρ news m D hl Q E q =>
  osE hb fun p hp hb => osE hb fun x hx hb => anE hb fun b1 hb => anE hb fun b2 hb => anE hb fun b3 b4 => bdE he fun v g1 he => bdE he fun v2 g2 he => mpE he fun σ3 g3 he => by
    rw [hp, show p.1 = _ from hx]
    rw [← he] at q
    exact plainObj_wpAny_Assign_Attribute (two HE b3 b2 g1 g2 D hl fun _ _ h2 tk2 _ _ D2 L2 r1 r2 => setA_ok C.X G.W (s := ⟨h2, s.gens, s.drawn, tk2, s.os⟩) D2 r2 r1 (nm_ok b1) g3 fun ρ3 news3 h3 tk3 D3 L3 => q _ _ _ _ _ _ D3 (L2.trans L3) ((L2.trans L3).loc hl) .next) ((plainE_ok b4).swap _ _ _)
theorem arm_asgS (G : CfgOK K NM c) (C : Cx prog w K NM env L h₀ A d) (HE : EvOK prog w K NM c env L h₀ A cf n) (o i me : ME) : ArmS prog w K NM c env L h₀ A cf n k (.asgS o i me) := fun hb he s ρ news m D hl Q E q =>
  osE hb fun p hp hb => osE hb fun x hx hb => anE hb fun b1 hb => anE hb fun b2 hb => anE hb fun b3 b4 => bdE he fun v g1 he => bdE he fun v2 g2 he => bdE he fun v3 g3 he => mpE he fun σ3 g4 he => by
    rw [hp, show p.1 = _ from hx]
    rw [← he] at q
    exact wpAny_Assign_Subscript (two HE b3 b1 g1 g2 D hl fun _ _ h2 tk2 _ _ D2 L2 r1 r2 => HE b2 g3 (s := ⟨h2, s.gens, s.drawn, tk2, s.os⟩) D2 (L2.loc hl) fun ρ3 news3 h3 tk3 y3 D3 L3 r3 => setS_ok (s := ⟨h3, s.gens, s.drawn, tk3, s.os⟩) D3 (L3.vr r2) r3 (L3.vr r1) g4 fun ρ4 news4 h4 tk4 D4 L4 => q _ _ _ _ _ _ D4 ((L2.trans L3).trans L4) (((L2.trans L3).trans L4).loc hl) .next) ((plainE_ok b4).swap _ _ _)
theorem arm_asgT (G : CfgOK K NM c) (C : Cx prog w K NM env L h₀ A d) (SL : env.locals = L) (HE : EvOK prog w K NM c env L h₀ A cf n) (rev : Bool) (is : List Nat) (me : ME) : ArmS prog w K NM c env L h₀ A cf n k (.asgT rev is me) := fun hb he s ρ news m D hl Q E q =>
  osE hb fun p hp hb => osE hb fun x hx hb => anE hb fun b1 hb => anE hb fun b2 b3 => bdE he fun v g1 he => bdE he fun xs hxs he => mpE he fun l1 g2 he => by
    rw [hp, show p.1 = _ from hx]
    rw [← he] at q
    revert b3 g2
    cases rev with
    | true =>
      exact fun b3 g2 => anE b3 fun c1 b3 => anE b3 fun c2 c3 => Assign_Tuple_swapped (HE b1 g1 D hl fun ρ1 news1 h1 tk1 y1 D1 L1 r1 => tupOf_ok G.W C.X (s := ⟨h1, s.gens, s.drawn, tk1, s.os⟩) D1 hxs r1 fun t us hu rr il => by
        rw [hu]
        refine unpackItemsN_ (s := ⟨h1, s.gens, s.drawn, tk1, s.os⟩) D1.F D1.N il C.hh ?_ fun h2 F2 N2 => order_ok C SL G.W.nm (f := fun n => bindName env n) (fun z => bindName_ z) (s := ⟨h2, s.gens, s.drawn, tk1, s.os⟩) c2 g2 rr.rev (D1.same F2 N2) (L1.loc hl) fun m3 h3 tk3 D3 hl3 => q _ _ _ _ _ _ D3 L1 hl3 .next
        have := putAll_len g2
        rw [List.length_reverse, List.length_reverse] at this
        rw [List.size_toArray, rr.length, ← this, of_decide_eq_true c3]) (plain_sole b2 _ _ _) (swYes_ok C.kf c1)
    | false =>
      exact fun b3 g2 => anE b3 fun c1 c2 => Assign_Tuple (HE b1 g1 D hl fun ρ1 news1 h1 tk1 y1 D1 L1 r1 => tupOf_ok G.W C.X (s := ⟨h1, s.gens, s.drawn, tk1, s.os⟩) D1 hxs r1 fun t us hu rr il => by
        rw [hu]
        exact tuple_ok C SL G.W.nm (s := ⟨h1, s.gens, s.drawn, tk1, s.os⟩) c2 rr il g2 D1 (L1.loc hl) fun m2 h2 tk2 D2 hl2 => q _ _ _ _ _ _ D2 L1 hl2 .next) (plain_sole b2 _ _ _) (swNo_ok c1 _)
theorem arm_augA (G : CfgOK K NM c) (C : Cx prog w K NM env L h₀ A d) (HE : EvOK prog w K NM c env L h₀ A cf n) (o : ME) (a : Nat) (op : Operator) (me : ME) : ArmS prog w K NM c env L h₀ A cf n k (.augA o a op me) := fun hb he s ρ news m D hl Q E q =>
  osE hb fun p hp hb => osE hb fun x hx hb => anE hb fun b0 hb => anE hb fun b1 hb => anE hb fun b2 b3 => bdE he fun v g1 he => bdE he fun u g2 he => bdE he fun v2 g3 he => bdE he fun z hz he => mpE he fun σ3 g4 he => gdE hz fun ho hz => by
    rw [hp, show p.1 = _ from hx, ← show op = p.2.1 from of_decide_eq_true b0, isAdd_ok ho]
    rw [← he] at q
    refine wpAny_AugAssign_AttributeAny (HE b2 g1 D hl fun ρ1 news1 h1 tk1 y1 D1 L1 r1 => getA_ok C.X G.W (s := ⟨h1, s.gens, s.drawn, tk1, s.os⟩) D1 r1 (nm_ok b1) g2 fun ρ2 news2 h2 tk2 y2 D2 L2 r2 => HE b3 g3 (s := ⟨h2, s.gens, s.drawn, tk2, s.os⟩) D2 ((L1.trans L2).loc hl) fun ρ3 news3 h3 tk3 y3 D3 L3 r3 => ?_)
    obtain ⟨i, j, t1, t2, e1, e2, e3⟩ := aug_of hz r2 r3
    rw [e1, e2]
    rw [e3] at g4
    exact iadd_int (setA_ok C.X G.W (s := ⟨h3, s.gens, s.drawn, tk3 + 1, s.os⟩) D3 (L3.vr (L2.vr r1)) (.int _ _) (nm_ok b1) g4 fun ρ4 news4 h4 tk4 D4 L4 => q _ _ _ _ _ _ D4 (((L1.trans L2).trans L3).trans L4) ((((L1.trans L2).trans L3).trans L4).loc hl) .next)
theorem arm_ifS (HT : TsOK prog w K NM c env L h₀ A cf n) (HB : BlOK prog w K NM c env L h₀ A cf n) (t : ME) (b1 b2 : List MS) : ArmS prog w K NM c env L h₀ A cf n k (.ifS t b1 b2) := fun hb he s ρ news m D hl Q E q =>
  osE hb fun p hp hb => anE hb fun c1 hb => anE hb fun c2 c3 => bdE he fun v g1 he => by
    rw [hp]
    refine wpAny_If (HT c1 g1 D hl fun ρ1 news1 h1 tk1 D1 L1 => ?_)
    revert he
    cases v.1 with
    | true => exact fun he => HB c2 he (s := ⟨h1, s.gens, s.drawn, tk1, s.os⟩) D1 (L1.loc hl) (q.le L1)
    | false => exact fun he => ifF rfl (HB c3 he (s := ⟨h1, s.gens, s.drawn, tk1, s.os⟩) D1 (L1.loc hl) (q.le L1))
theorem arm_whileS (G : CfgOK K NM c) (C : Cx prog w K NM env L h₀ A d) (HC : CallsOK prog w K NM d cf) (IB : ∀ j, j < n + 1 → BlOK prog w K NM c env L h₀ A cf j) (t : ME) (b : List MS) : ArmS prog w K NM c env L h₀ A cf n k (.whileS t b) := fun hb he s ρ news m D hl Q E q =>
  osE hb fun p hp hb => anE hb fun c1 c2 => by
    rw [hp]
    exact while_ok G C HC IB c1 c2 (n := n + 1) he D hl q
theorem rngN_of {x : Str} (h : rngN K env.scope.names (x == ("range" : Str)) = true) : x = ("range" : Str) ∧ env.scope.names.lookup ("range" : Str) = some .globalImplicit ∧ nsIn K mainGlobals ("range" : Str) = some none := anE h fun h1 h => anE h fun h2 h3 => ⟨eq_ok h1, eq_ok h2, eq_ok h3⟩
theorem forR1 (G : CfgOK K NM c) (C : Cx prog w K NM env L h₀ A d) (SL : env.locals = L) (HE : EvOK prog w K NM c env L h₀ A cf n) (IB : ∀ j, j < n + 1 → BlOK prog w K NM c env L h₀ A cf j) {i : Nat} {x : Str} {xp rp cp fp : Pos} {ae : PySem.Expr} {body : List PySem.Stmt} {me : ME} {b : List MS} {l : Loc} {σ : H} {r : Fl × Loc × H} {v : V × H} {mi : Int} (b1 : locB NM env.scope.names i x = true) (c2 : env.scope.names.lookup ("range" : Str) = some .globalImplicit) (c3 : nsIn K mainGlobals ("range" : Str) = some none)
    (b3 : chkE K NM env.scope.names 60 me ae = true) (b4 : plainE ae = true) (b5 : chkB K NM env.scope.names k b body = true) (g : (ev c cf n).1 l me σ = some v) (hi : v.1 = .int mi) (r1 : 0 ≤ mi) (r2 : mi < 1000) (he : exR c cf n l i 0 mi.toNat b v.2 = some r) {s : Shared} {ρ news m} (D : Dy NM h₀ L ρ σ m news s.heap) (hl : LocR NM env L ρ news l m)
    {Q : Flow → Shared → Prop} {E : Value → Shared → Prop} (q : PostF NM env h₀ L ρ news r.2.2 r.2.1 r.1 Q s) : wpAny (model prog w) A (exec (.For (.Name x xp) (.Call (.Name ("range" : Str) rp) [ae] [] cp) body [] fp) env) Q E s := by
  refine wpAny_For (Call_ (bname_ok C D.F c3 boot_range (by decide) ?_ c2 (by decide))) (fun _ => rfl)
  refine callWith_type1 (spliced_more (HE b3 g D hl fun ρ1 news1 h1 tk1 y1 D1 L1 hy => spliced_none ?_) (star_cons b4)) (star_cons b4)
  obtain ⟨tki, e1⟩ := int_of hy hi
  rw [e1]
  refine call_range_1 (wpAny_pyIter_range (Heap.get?_push_size _ rfl) (small_nat r1 r2) ?_)
  have D2 := D1.push { cls := .type "range", data := .fields #[.int 0 tk1, .int mi tki, .int 1 (tk1 + 1)] }
  rw [rangeSize_nat r1]
  have D3 := D2.extra (rngO 0 ((mi.toNat : Nat) : Int)) rfl
  exact forR_ok G C SL (fun j hj => IB j (Nat.lt_succ_of_lt hj)) b1 b5 he D3.1 ((L1.trans D3.2.2.2).loc hl) (L1.trans D3.2.2.2) (fun z => D3.2.2.1 (L1.dom D2.P z)) (.head _) D3.2.1 q
theorem arm_forR (G : CfgOK K NM c) (C : Cx prog w K NM env L h₀ A d) (SL : env.locals = L) (HE : EvOK prog w K NM c env L h₀ A cf n) (IB : ∀ j, j < n + 1 → BlOK prog w K NM c env L h₀ A cf j) (i : Nat) (es : List ME) (b : List MS) : ArmS prog w K NM c env L h₀ A cf n k (.forR i es b) := fun {st l σ r} hb he s ρ news m D hl Q E q =>
  osE hb fun p hp hb => osE hb fun x hx hb => osE hb fun y hy hb => osE hb fun z hz hb => osE hb fun ae ha hb => osE hb fun me hm hb => anE hb fun b1 hb => anE hb fun b2 hb => anE hb fun b3 hb => anE hb fun b4 b5 => bdE he fun v g1 he => bsE he fun u hu he => bsE he fun mi hi he => gdE he fun hr he => by
    obtain ⟨c1, c2, c3⟩ := rngN_of b2
    obtain ⟨r1, r2⟩ : 0 ≤ mi ∧ mi < 1000 := of_decide_eq_true hr
    have g1 : ((ev c cf n).1 l me σ).bind (fun p => (some (([] : List V), p.2)).map fun q => (p.1 :: q.1, q.2)) = some v := by rw [show es = [me] from hm] at g1; exact g1
    refine bdE g1 fun w1 g2 g1 => ?_
    have g1 : ([w1.1], w1.2) = v := Option.some.inj g1
    have e1 : w1.1 = .int mi := by rw [← g1] at hu; exact (List.cons.inj hu).1.trans hi
    have e2 : w1.2 = v.2 := congrArg Prod.snd g1
    rw [hp, show p.1 = _ from hx, show p.2.1 = _ from hy, show y.1 = _ from hz, show z.1 = _ from c1, show y.2.1 = _ from ha]
    exact forR1 G C SL HE IB b1 c2 c3 b3 b4 b5 g2 e1 r1 r2 (by rw [e2]; exact he) D hl q
theorem arm_forL (G : CfgOK K NM c) (C : Cx prog w K NM env L h₀ A d) (SL : env.locals = L) (HE : EvOK prog w K NM c env L h₀ A cf n) (IB : ∀ j, j < n + 1 → BlOK prog w K NM c env L h₀ A cf j) (is : List Nat) (me : ME) (b : List MS) : ArmS prog w K NM c env L h₀ A cf n k (.forL is me b) := fun hb he s ρ news m D hl Q E q =>
  osE hb fun p hp hb => anE hb fun b1 hb => anE hb fun b2 hb => anE hb fun b3 b4 => bdE he fun v g1 he => bsE he fun jj hj he => bdE he fun xs hxs he => by
    rw [hp]
    refine wpAny_For (HE b2 g1 D hl fun ρ1 news1 h1 tk1 y1 D1 L1 r1 => D1.isList (listAt_ok hxs) r1 hj fun la us n1 e1 p1 m1 rr il => ?_) (fun _ => (plainE_ok b3).set _ _)
    rw [e1]
    refine wpAny_pyIter_list (s := ⟨h1, s.gens, s.drawn, tk1, s.os⟩) il ?_
    have D3 := D1.extra { cls := .type "list_iterator", data := .fields #[.ref la, .int 0 0] } rfl
    rw [hj, e1] at r1
    exact forL_ok G C SL (fun j hj => IB j (Nat.lt_succ_of_lt hj)) b1 b4 he D3.1 ((L1.trans D3.2.2.2).loc hl) (L1.trans D3.2.2.2) (fun z => D3.2.2.1 (L1.dom D1.P z)) (.head _) D3.2.1 ⟨_, Heap.get?_push_size _ rfl, rfl, rfl⟩ r1 q
theorem arm_ret (HE : EvOK prog w K NM c env L h₀ A cf n) (me : ME) : ArmS prog w K NM c env L h₀ A cf n k (.ret me) := fun hb he s ρ news m D hl Q E q =>
  osE hb fun p hp hb => mpE he fun v g1 he => by
    rw [hp]
    rw [← he] at q
    exact wpAny_Return_some (HE hb g1 D hl fun ρ1 news1 h1 tk1 y1 D1 L1 r1 => q _ _ _ _ _ _ D1 L1 (L1.loc hl) (.ret r1))
theorem arm_expr (C : Cx prog w K NM env L h₀ A d) (HE : EvOK prog w K NM c env L h₀ A cf n) (me : ME) : ArmS prog w K NM c env L h₀ A cf n k (.expr me) := fun hb he s ρ news m D hl Q E q =>
  osE hb fun p hp hb => anE hb fun b1 b2 => bdE he fun v g1 he => gdE he fun hd he => by
    rw [hp]
    rw [← Option.some.inj he] at q
    refine wpAny_Expr (HE b1 g1 D hl fun ρ1 news1 h1 tk1 y1 D1 L1 r1 => ?_) (interactive_no C.kf) ((plainE_ok b2).swap _ _ _)
    have z : ∀ y1, VR ρ1 v.1 y1 → (y1 = .none ∨ ∃ i t, y1 = .int i t) := fun y1 r1 => by
      revert hd r1
      cases v.1 with
      | none => exact fun _ r1 => by cases r1; exact .inl rfl
      | int i => exact fun _ r1 => by cases r1; exact .inr ⟨_, _, rfl⟩
      | _ => exact fun hd => by cases hd
    rcases z y1 r1 with e | ⟨i, t, e⟩
    · rw [e]; exact q _ _ _ _ _ _ D1 L1 (L1.loc hl) .next
    · rw [e]; exact q _ _ _ _ _ _ D1 L1 (L1.loc hl) .next
theorem armS (G : CfgOK K NM c) (C : Cx prog w K NM env L h₀ A d) (SL : env.locals = L) (HC : CallsOK prog w K NM d cf) (HE : EvOK prog w K NM c env L h₀ A cf n) (HT : TsOK prog w K NM c env L h₀ A cf n) (HB : BlOK prog w K NM c env L h₀ A cf n) (IB : ∀ j, j < n + 1 → BlOK prog w K NM c env L h₀ A cf j) (me : MS) : ArmS prog w K NM c env L h₀ A cf n k me := by
  cases me with
  | asgN i e => exact arm_asgN G C SL HE i e
  | asgA o a e => exact arm_asgA G C HE o a e
  | asgS o i e => exact arm_asgS G C HE o i e
  | asgT r is e => exact arm_asgT G C SL HE r is e
  | augA o a op e => exact arm_augA G C HE o a op e
  | ifS t a b => exact arm_ifS HT HB t a b
  | whileS t b => exact arm_whileS G C HC IB t b
  | forR i es b => exact arm_forR G C SL HE IB i es b
  | forL is e b => exact arm_forL G C SL HE IB is e b
  | ret e => exact arm_ret HE e
  | expr e => exact arm_expr C HE e
  | stop => exact fun _ he => by cases he
end arms
noncomputable def nextP (N : Prop) (R : Flow → Prop) (pf : Flow) : Prop := match pf with
  | .next => N
  | f => R f
theorem nextF_of {f : Fl} {ρ : List RA} {pf : Flow} (h : FlR ρ f pf) (e : nextF f = false) {N : Prop} {R : Flow → Prop} (r : R pf) : nextP N R pf := by
  cases h with
  | next => cases e
  | _ => exact r
theorem st_ok (G : CfgOK K NM c) (C : Cx prog w K NM env L h₀ A d) (SL : env.locals = L) (HC : CallsOK prog w K NM d cf) (n : Nat) : StOK prog w K NM c env L h₀ A cf n ∧ BlOK prog w K NM c env L h₀ A cf n := by
  induction n using Nat.strongRecOn with
  | ind n IH =>
  cases n with
  | zero => exact ⟨fun _ h => (by cases h), fun _ h => (by cases h)⟩
  | succ n =>
  have IB : ∀ j, j < n + 1 → BlOK prog w K NM c env L h₀ A cf j := fun j h => (IH j h).2
  obtain ⟨HE, HT⟩ := ev_ok G C HC n
  obtain ⟨HS, HB⟩ := IH n (Nat.lt_succ_self n)
  refine ⟨fun {k ms st l σ r} hb he => ?_, fun {k ms st l σ r} hb he {s ρ news m} D hl {Q E} q => ?_⟩
  · cases k with
    | zero => cases hb
    | succ k => exact armS G C SL HC HE HT HB IB ms hb he
  · cases k with
    | zero => cases hb
    | succ k =>
    cases ms with
    | nil =>
      cases st with
      | nil =>
        rw [← Option.some.inj he] at q
        exact wpAny_execs_nil (q _ _ _ s.toks _ _ D .refl hl .next)
      | cons _ _ => cases hb
    | cons m1 ms =>
      have hb : (stopM m1 || ckC (cks K NM env.scope.names k) m1 ms st) = true := hb
      have he : seqR (fun l1 σ1 => (ex c cf n).B l1 ms σ1) ((ex c cf n).S l m1 σ) = some r := he
      refine orE hb (fun hs => ?_) fun hb => ?_
      · rw [stopM_ok hs] at he
        cases n with
        | zero => cases he
        | succ n => cases he
      · cases st with
        | nil => cases hb
        | cons x xs =>
          exact anE hb fun b1 b2 => wpAny_execs_cons (seqE he (fun l1 σ1 g1 he => HS b1 g1 D hl fun ρ1 news1 h1 tk1 m1 pf D1 L1 hl1 hf => by
              cases hf
              exact HB b2 he (s := ⟨h1, s.gens, s.drawn, tk1, s.os⟩) D1 hl1 (q.le L1))
            fun g1 hn => HS b1 g1 D hl fun ρ1 news1 h1 tk1 m1 pf D1 L1 hl1 hf => nextF_of hf hn (N := wpAny (model prog w) A (execs xs env) Q E { heap := h1, gens := s.gens, drawn := s.drawn, toks := tk1, os := s.os }) (R := fun f => Q f { heap := h1, gens := s.gens, drawn := s.drawn, toks := tk1, os := s.os }) (q _ _ _ tk1 _ _ D1 L1 hl1 hf))
end st
theorem zip_lookup {names : List Str} : ∀ {vs : List Value}, names.Nodup → vs.length = names.length → ∀ (pre : List (Str × Value)), (∀ x ∈ names, pre.lookup x = none) → names.filterMap (fun n => ((pre ++ names.zip vs).lookup n).map (n, ·)) = names.zip vs := by
  induction names with
  | nil => intro vs _ _ _ _; rfl
  | cons n names ih =>
    intro vs nd hl pre hp
    cases vs with
    | nil => cases hl
    | cons v vs =>
      rw [List.nodup_cons] at nd
      have h1 : (pre ++ (n, v) :: names.zip vs).lookup n = some v := by
        rw [List.lookup_append, hp n (.head _), List.lookup_cons]; simp
      show List.filterMap (fun m => ((pre ++ (n, v) :: names.zip vs).lookup m).map (m, ·)) (n :: names) = (n, v) :: names.zip vs
      rw [List.filterMap_cons, h1]
      refine congrArg ((n, v) :: ·) ?_
      have ih := ih nd.2 (Nat.succ.inj hl) (pre ++ [(n, v)]) (fun x hx => by
        rw [List.lookup_append, hp x (.tail _ hx), List.lookup_cons, show (x == n) = false from beq_eq_false_iff_ne.mpr fun e => nd.1 (e ▸ hx)]
        rfl)
      rw [List.append_assoc] at ih
      exact ih
theorem zip_some {names : List Str} : ∀ {vs : List Value}, vs.length = names.length → ∀ n ∈ names, ∃ v, (names.zip vs).lookup n = some v := by
  induction names with
  | nil => intro vs _ n hn; cases hn
  | cons n names ih =>
    intro vs hl m hm
    cases vs with
    | nil => cases hl
    | cons v vs =>
      rw [List.zip_cons_cons, List.lookup_cons]
      cases e : m == n with
      | true => exact ⟨v, rfl⟩
      | false =>
        rcases List.mem_cons.mp hm with rfl | hm
        · rw [beq_self_eq_true] at e; cases e
        · exact ih (Nat.succ.inj hl) m hm
theorem zip_missing {names : List Str} {vs : List Value} (hl : vs.length = names.length) : names.filter (fun n => ((names.zip vs).lookup n).isNone) = [] := by
  rw [List.filter_eq_nil_iff]
  intro a ha
  obtain ⟨v, hv⟩ := zip_some hl a ha
  rw [hv]; simp
theorem bind_no {α β γ : Type} {l : List α} {b : β} {f : α → β → Sem (ForInStep β)} {k : β → Sem γ} {r : Sem γ} (h : l = []) (h2 : k b = r) : (forIn l b f >>= k) = r := by rw [h]; exact h2
theorem bind_ok {name qual : Str} {as : List Arg} {kd : List (Option PySem.Expr)} {df : List PySem.Expr} {body : List PySem.Stmt} {scope : PySem.Scope} {kV doc pm : Value} {an : Option Addr} {cdv ct : Value} {vs : List Value} (nd : (as.map (·.arg)).Nodup) (hl : vs.length = (as.map (·.arg)).length) :
    bindArgs (fnOf name qual ⟨[], as, none, [], kd, none, df⟩ body scope .none kV doc pm an cdv ct) ⟨vs, []⟩ = pure ((as.map (·.arg)).zip vs) := by
  refine ite_no ?h1 ?_
  case h1 => exact (Bool.and_eq_false_iff.mpr (.inl (decide_eq_false (by show ¬ vs.length > (as.map (·.arg)).length; rw [hl]; exact Nat.lt_irrefl _))))
  refine ite_no ?h2 ?_
  case h2 =>
    show (!(List.filter (fun n => ((((as.map (·.arg))).zip vs).lookup n).isNone) (List.take ((as.map (·.arg)).length - (List.drop (0 - (as.map (·.arg)).length) ([] : List Value)).length) (as.map (·.arg)))).isEmpty) = false
    rw [List.drop_nil, List.length_nil, Nat.sub_zero, List.take_length, zip_missing hl]; rfl
  refine bind_no ?h3 ?_
  case h3 =>
    show (List.drop ((as.map (·.arg)).length - (List.drop (0 - (as.map (·.arg)).length) ([] : List Value)).length) (as.map (·.arg))).zip _ = []
    rw [List.drop_nil, List.length_nil, Nat.sub_zero, List.drop_length]; rfl
  show (pure (List.filterMap (fun n => ((((as.map (·.arg))).zip vs).lookup n).map (n, ·)) ((as.map (·.arg)) ++ [])) : Sem _) = _
  rw [List.append_nil]
  exact congrArg pure (zip_lookup nd hl [] (fun _ _ => rfl))
noncomputable def funD (d : Data) : Option {fd : FuncData // d = .func fd} := match d with
  | .func fd => some ⟨fd, rfl⟩
  | _ => none
noncomputable def stmtsB (b : FuncBody) : Option {ss : List PySem.Stmt // b = .stmts ss} := match b with
  | .stmts ss => some ⟨ss, rfl⟩
  | _ => none
noncomputable def fnC (K : Frag) (NM : List Str) (a : Addr) (ps : List Nat) (B : Nms → List PySem.Stmt → Bool) : Bool := ob (K.lookup a) fun o => ob (funD o.data) fun fd => (Nat.beq fd.1.globals mainGlobals && fd.1.closure.isEmpty && Nat.beq fd.1.builtins builtinsNs && (fd.1.defaults == .none)) && (codeIn K fd.1.code fd.1.qualname && (fd.1.params.posonlyargs.isEmpty && (fd.1.params.kwonlyargs.isEmpty &&
    (fd.1.params.vararg.isNone && (fd.1.params.kwarg.isNone && (nmsB NM fd.1.scope.names ps (fd.1.params.args.map (·.arg)) && (decide (fd.1.params.args.map (·.arg)).Nodup && (!fd.1.scope.isCoroutine && (!fd.1.scope.isGenerator && (decide (fd.1.scope.kind = .function) &&
    ((fd.1.scope.names.all fun x => decide (x.2 ≠ .cell)) && ob (stmtsB fd.1.body) fun b => B fd.1.scope.names b.1)))))))))))
noncomputable def fnB (K : Frag) (NM : List Str) (a : Addr) (fx : FX) : Bool := fnC K NM a fx.params fun ns b => chkB K NM ns 60 fx.body b
structure FnFacts (K : Frag) (NM : List Str) (a : Addr) (ps : List Nat) (B : Nms → List PySem.Stmt → Bool) (oc : Value) (od : Option Addr) (osl : Array (Option Value)) (name qual : Str) (as : List Arg) (kd : List (Option PySem.Expr)) (df : List PySem.Expr) (body : List Stmt) (scope : PySem.Scope) (kV doc pm : Value) (an : Option Addr) (cdv ct : Value) : Prop where
  get : K.lookup a = some ⟨oc, od, .func (fnOf name qual ⟨[], as, none, [], kd, none, df⟩ body scope .none kV doc pm an cdv ct), osl⟩
  code : codeIn K cdv qual = true
  nms : nmsB NM scope.names ps (as.map (·.arg)) = true
  nd : (as.map (·.arg)).Nodup
  co : scope.isCoroutine = false
  ge : scope.isGenerator = false
  ki : scope.kind = .function
  ce : ∀ x ∈ scope.names, x.2 ≠ .cell
  bd : B scope.names body = true
theorem pr_of {p : Arguments} (h6 : p.posonlyargs = []) (h7 : p.kwonlyargs = []) (h8 : p.vararg = none) (h9 : p.kwarg = none) : p = ⟨[], p.args, none, [], p.kw_defaults, none, p.defaults⟩ := by
  cases p
  cases h6
  cases h7
  cases h8
  cases h9
  rfl
theorem fd_of {fd : FuncData} {ss : List PySem.Stmt} {pr : Arguments} (h : (Nat.beq fd.globals mainGlobals && fd.closure.isEmpty && Nat.beq fd.builtins builtinsNs && (fd.defaults == .none)) = true) (hp : fd.params = pr) (hb : fd.body = .stmts ss) : fd = fnOf fd.name fd.qualname pr ss fd.scope .none fd.kwdefaults fd.doc fd.pyModule fd.annotations fd.code fd.closureTuple :=
  anE h fun h h4 => anE h fun h h3 => anE h fun h1 h2 => by
    show (⟨fd.name, fd.qualname, fd.params, fd.body, fd.scope, fd.globals, fd.closure, fd.defaults, fd.kwdefaults, fd.doc, fd.pyModule, fd.annotations, fd.code, fd.closureTuple, fd.builtins⟩ : FuncData) = _
    rw [nbeq.mp h1, nbeq.mp h3, eq_ok h4, List.isEmpty_iff.mp h2, hb, hp]
theorem fnC_of {K : Frag} {NM : List Str} {a : Addr} {ps : List Nat} {B : Nms → List PySem.Stmt → Bool} (h : fnC K NM a ps B = true) {P : Prop} (k : ∀ oc od osl name qual as kd df body scope kV doc pm an cdv ct, FnFacts K NM a ps B oc od osl name qual as kd df body scope kV doc pm an cdv ct → P) : P :=
  obE h fun o ho h => osE h fun fd hfd h => anE h fun h0 h => anE h fun h5 h => anE h fun h6 h => anE h fun h7 h => anE h fun h8 h => anE h fun h9 h => anE h fun h10 h => anE h fun h11 h => anE h fun h12 h => anE h fun h13 h => anE h fun h14 h => anE h fun h15 h => osE h fun ss hss h16 =>
    k o.cls o.dict o.slots fd.name fd.qualname fd.params.args fd.params.kw_defaults fd.params.defaults ss fd.scope fd.kwdefaults fd.doc fd.pyModule fd.annotations fd.code fd.closureTuple
      ⟨ho.trans (congrArg some (by rw [← fd_of h0 (pr_of (List.isEmpty_iff.mp h6) (List.isEmpty_iff.mp h7) (Option.isNone_iff_eq_none.mp h8) (Option.isNone_iff_eq_none.mp h9)) hss, ← show o.data = .func fd from hfd])), h5, h10, of_decide_eq_true h11, not_ok h12, not_ok h13, of_decide_eq_true h14, fun x hx => of_decide_eq_true (all_ok h15 x hx), h16⟩
theorem nmsB_loc {NM : List Str} {ns : Nms} {is : List Nat} : ∀ {xs : List Str} {us : List Value}, nmsB NM ns is xs = true → ∀ y ∈ xs.zip us, ns.lookup y.1 = some .local := by
  induction is with
  | nil => intro xs us h y hy; rw [nmsB_nil h] at hy; cases hy
  | cons i is ih =>
    intro xs us h y hy
    exact nmsB_cons h fun x r hx b1 b2 => by
      rw [hx] at hy
      cases us with
      | nil => cases hy
      | cons u us =>
        rw [List.zip_cons_cons] at hy
        rcases List.mem_cons.mp hy with rfl | hy
        · exact (locB_ok b1).2.1
        · exact ih b2 y hy
theorem nmsB_len {NM : List Str} {ns : Nms} {is : List Nat} : ∀ {xs : List Str}, nmsB NM ns is xs = true → xs.length = is.length := by
  induction is with
  | nil => intro xs h; rw [nmsB_nil h]; rfl
  | cons i is ih => intro xs h; exact nmsB_cons h fun x r hx _ b2 => by rw [hx]; exact congrArg Nat.succ (ih b2)
theorem binds_loc {NM : List Str} {env : Env} {L : Addr} {news : Led} {ρ : List RA} (nm : nmOk NM) (SL : env.locals = L) {is : List Nat} : ∀ {xs : List Str} {vs : List V} {us : List Value} {l : Loc} {bs : List (Str × Value)}, nmsB NM env.scope.names is xs = true → VsR ρ vs us →
    LocR NM env L ρ news l (fun y => bs.lookup y) → LocR NM env L ρ news ((is.zip vs).reverse ++ l) (fun y => ((xs.zip us).reverse ++ bs).lookup y) := by
  induction is with
  | nil => intro xs vs us l bs h hv hl; rw [nmsB_nil h]; exact hl
  | cons i is ih =>
    intro xs vs us l bs h hv hl
    refine nmsB_cons h fun x r hx b1 b2 => ?_
    rw [hx]
    cases hv with
    | nil => exact hl
    | @cons v u vs us a r' =>
      have hl' : LocR NM env L ρ news ((i, v) :: l) (fun y => ((x, u) :: bs).lookup y) := by
        rw [show (fun y => ((x, u) :: bs).lookup y) = fun y => if y = x then some u else bs.lookup y from funext fun y => by
          rw [List.lookup_cons]
          by_cases hyx : y = x
          · rw [hyx, beq_self_eq_true, if_pos rfl]
          · rw [beq_eq_false_iff_ne.mpr hyx, if_neg hyx]]
        exact hl.put nm SL (locB_ok b1).1 (locB_ok b1).2.1 a
      have z := ih b2 r' hl'
      rw [List.zip_cons_cons, List.zip_cons_cons, List.reverse_cons, List.reverse_cons, List.append_assoc, List.append_assoc]
      exact z
theorem binds_loc0 {NM : List Str} {env : Env} {L : Addr} {news : Led} {ρ : List RA} (nm : nmOk NM) (SL : env.locals = L) {is : List Nat} {xs : List Str} {vs : List V} {us : List Value} (h : nmsB NM env.scope.names is xs = true) (hv : VsR ρ vs us) :
    LocR NM env L ρ news (is.zip vs).reverse (fun y => (xs.zip us).reverse.lookup y) := by
  have z := binds_loc (news := news) nm SL (l := []) (bs := []) h hv (fun i v e => by cases e)
  simp only [List.append_nil] at z
  exact z
theorem under_gd {A : Around} (gd : A.guards = some []) {xs : List Value} {fa : Addr} : (A.under (.builtin "type.__call__" ⟨.ref fa :: xs, []⟩)).guards = some [] := by
  unfold Around.under
  simp only [gd]
  rfl
section call
variable {prog : Program} {w : World} {K : Frag} {NM : List Str} {c : Cfg} {env : Env} {L : Addr} {h₀ : Heap} {A : Around} {d : Nat} {cf : CF}
noncomputable def PostR (NM : List Str) (h₀ : Heap) (L : Addr) (m : Str → Option Value) (ρ : List RA) (news : Led) (OK : H → V → Prop) (R : Result → Shared → Prop) (s : Shared) : Prop := ∀ σ' r ρ' news' h' tk y, OK σ' r → Dy NM h₀ L ρ' σ' m news' h' → Le ρ ρ' news news' → VR ρ' r y → R (.ok (.ret y)) { heap := h', gens := s.gens, drawn := s.drawn, toks := tk, os := s.os }
theorem fnopen (nm : nmOk NM) {f : Addr} {ps : List Nat} {B : Nms → List PySem.Stmt → Bool} (HF : fnC K NM f ps B = true) (X : K.In h₀) {p loose mean mg mb} (T : Top p loose mean mg mb h₀) {A₀ base outer} (Bl : Below A₀ base outer h₀) (hA : A.frames = some (env :: outer)) (hf : env.frame = some L) (hh : A.handled = none)
    (hk : env.scope.kind = .function) (dep : A.depth + 1 + 4 * d < recursionLimit) (un : A.units + 3 + 16 * d + 80 < cLine) (gd : A.guards = some []) {ρ σ m news} {OK : H → V → Prop} {s : Shared} {vs xs} (hlen : ps.length = vs.length) (D : Dy NM h₀ L ρ σ m news s.heap) (hv : VsR ρ vs xs) {R : Result → Shared → Prop}
    (q : PostR NM h₀ L m ρ news OK R s)
    (hb : ∀ g L' env' A' s' m' (Q : Flow → Shared → Prop) (E : Value → Shared → Prop) (body : List PySem.Stmt), (∀ b o, h₀.get? b = some o → g.get? b = some o) → Cx prog w K NM env' L' g A' d → env'.locals = L' → env'.cells = [] → B env'.scope.names body = true → Dy NM g L' ρ σ m' news s'.heap → LocR NM env' L' ρ news (ps.zip vs).reverse m' →
      (∀ σ' r ρ' news' h' tk m'' y, OK σ' r → Dy NM g L' ρ' σ' m'' news' h' → Le ρ ρ' news news' → VR ρ' r y → Q (.ret y) { heap := h', gens := s'.gens, drawn := s'.drawn, toks := tk, os := s'.os }) → (∀ σ' ρ' news' h' tk m'', OK σ' .none → Dy NM g L' ρ' σ' m'' news' h' → Le ρ ρ' news news' → Q .next { heap := h', gens := s'.gens, drawn := s'.drawn, toks := tk, os := s'.os }) → wpAny (model prog w) A' (execs body env') Q E s') :
    codeAny (model prog w) A (.call (.ref f) ⟨xs, []⟩) R s :=
  fnC_of HF fun oc od osl name qual as kd df body scope kV doc pm an cdv ct FF => by
    have hl1 := nmsB_len FF.nms
    refine code_def (binds := (as.map (·.arg)).zip xs) Bl D.F X D.N T hA hf hk FF.get FF.code (by omega) (BindsTo.of_eq (bind_ok FF.nd (by rw [hv.length, hl1, hlen]))) (nmsB_loc FF.nms) (fun g L' h₁ Fg F' N' B' Xg Tg => ?_) FF.co FF.ge FF.ki FF.ce
    have hl' := binds_loc0 (env := envOf qual scope L' f cdv) (L := L') (news := news) nm rfl FF.nms hv
    exact hb g L' _ _ ⟨h₁, s.gens, s.drawn, s.toks + ((as.map (·.arg)).zip xs).length, s.os⟩ _ _ _ body Fg.keep
      ⟨Xg, ⟨_, _, _, _, _, Tg⟩, ⟨_, _, _, _, B', Around.frames_deeper hA, rfl, FF.ki⟩, rfl, rfl, hh, FF.ki, dep, un, gd⟩ rfl rfl FF.bd ⟨F', N', D.nd, D.P⟩ hl'
      (fun σ' r ρ' news' h' tk m'' y ok D2 L2 r2 => leaveK_ D2.F D2.N fun F3 N3 => q _ _ _ _ _ _ _ ok ⟨F3, N3, D2.nd, D2.P⟩ L2 r2)
      (fun σ' ρ' news' h' tk m'' ok D2 L2 => leaveK_ D2.F D2.N fun F3 N3 => q _ _ _ _ _ _ _ ok ⟨F3, N3, D2.nd, D2.P⟩ L2 .none)
theorem fnrun_ok (G : CfgOK K NM c) (HC : CallsOK prog w K NM d cf) {f : Addr} {fx : FX} (HF : fnB K NM f fx = true) (X : K.In h₀) {p loose mean mg mb} (T : Top p loose mean mg mb h₀) {A₀ base outer} (B : Below A₀ base outer h₀) (hA : A.frames = some (env :: outer)) (hf : env.frame = some L) (hh : A.handled = none)
    (hk : env.scope.kind = .function) (dep : A.depth + 1 + 4 * d < recursionLimit) (un : A.units + 3 + 16 * d + 80 < cLine) (gd : A.guards = some []) {ρ σ m news} {s : Shared} {vs xs} {r : V × H} (D : Dy NM h₀ L ρ σ m news s.heap) (hv : VsR ρ vs xs) (he : runF c cf fx vs σ = some r) {R : Result → Shared → Prop}
    (q : PostR NM h₀ L m ρ news (fun σ' v => (v, σ') = r) R s) : codeAny (model prog w) A (.call (.ref f) ⟨xs, []⟩) R s :=
  gdE he fun hlen he => bdE he fun z g1 he => fnopen G.W.nm HF X T B hA hf hh hk dep un gd (nbeq.mp hlen) D hv q fun g L' env' A' s' m' Q E body Xg C' e1 e2 hb D' hl' q1 q2 => (st_ok G C' e1 HC FU).2 hb g1 D' hl' fun ρ1 news1 h1 tk1 m1 pf D1 L1 hl1 hf => by
    revert he hf
    cases z.1 with
    | ret v => exact fun he hf => by cases hf with | ret hr => exact q1 _ _ _ _ _ _ _ _ (Option.some.inj he) D1 L1 hr
    | next => exact fun he hf => by cases hf; exact q2 _ _ _ _ _ _ (Option.some.inj he) D1 L1
    | _ => exact fun he => by cases he
structure TabOK (K : Frag) (NM : List Str) (c : Cfg) : Prop where
  G : CfgOK K NM c
  fn : ∀ p ∈ c.T.fn, fnB K NM p.1 p.2 = true
theorem wpAny_of_list {E : Value → Shared → Prop} {s : Shared} {l : Addr} {its : Array Value} {n : Nat} {Q : Value → Shared → Prop} (ho : s.heap.get? l = some (W.listOf its n)) (hsz : its.size ≤ sizeLine)
    (hQ : ∀ h' c', (∀ b o, s.heap.get? b = some o → h'.get? b = some o) → h'.get? s.heap.objs.size = some (W.listOf its c') → Q (.ref s.heap.objs.size) { s with heap := h' }) : wpAny (model prog w) A (call (.type "list") [.ref l]) Q E s :=
  call_list_seq (hsz := hsz) l (.inl rfl) ho rfl rfl fun h' c' hk hD => hQ h' c' hk hD
theorem newI {h' : Heap} {ρ : List RA} {σ : H} {m : Str → Option Value} {news : Led} {h : Heap} (D : Dy NM h₀ L ρ σ m news h) {fa x dx : Addr} (F' : Fr h₀ L h' m) (N' : News h₀ L h' ((x, instObj fa dx) :: (dx, dictOf [] 0) :: news)) (lt : ∀ p ∈ news, p.1 < dx) (lt2 : dx < x) :
    Dy NM h₀ L (ρ ++ [(x, some dx)]) (σ ++ [.inst fa []]) m ((x, instObj fa dx) :: (dx, dictOf [] 0) :: news) h' ∧ Le ρ (ρ ++ [(x, some dx)]) news ((x, instObj fa dx) :: (dx, dictOf [] 0) :: news) := by
  have hdx : dx ∉ news.map (·.1) := fresh_lt lt
  have hx : x ∉ news.map (·.1) := fresh_lt fun q hq => Nat.lt_trans (lt q hq) lt2
  have hne : x ≠ dx := Nat.ne_of_gt lt2
  exact D.allocN (p := (x, some dx)) (adds := [(x, instObj fa dx), (dx, dictOf [] 0)]) F' N' (by simp [hne]) (by intro q hq; rcases List.mem_cons.mp hq with rfl | hq; exact hx; rcases List.mem_cons.mp hq with rfl | hq; exact hdx; cases hq) (by simp [adr]) (by simp [adr, hne]) (.inst fa []) ⟨dx, [], 0, rfl, .head _, .tail _ (.head _), .nil⟩
theorem new_ok (TB : TabOK K NM c) (HC : CallsOK prog w K NM d cf) (C : Cx prog w K NM env L h₀ A (d + 1)) {fa : Addr} {cx : CX} (cc : ClF K NM fa cx) {ρ σ m news} {s : Shared} {vs xs} {r : V × H} (D : Dy NM h₀ L ρ σ m news s.heap) (hv : VsR ρ vs xs) (he : newV c cf fa cx.init vs σ = some r) {Q : Value → Shared → Prop} {E : Value → Shared → Prop}
    (q : Post NM h₀ L m ρ news r.2 r.1 Q s) : wpAny (model prog w) A (call (.ref fa) xs) Q E s := by
  obtain ⟨p, loose, mean, mg, mb, T⟩ := C.Tp
  obtain ⟨A₀, base, fenv, outer, B, hA, hfr, hfk⟩ := C.B
  have dep := C.dep
  have un := C.un
  have hini := cc.init
  revert hini he
  cases cx.init with
  | some gi =>
    exact fun he hini => anE hini fun i1 i2 => bdE he fun fx hfx he => bdE he fun z hz he => call_cls D.F C.X D.N cc.mkI (eq_ok i1) i2 fun x dx h' F' N' lt lt2 => by
      have Z := newI D F' N' lt lt2
      refine fnrun_ok TB.G HC (TB.fn _ (lk_mem hfx)) C.X T B (A := A.under _) (by show pushEnvs [] A.frames = _; rw [hA]; rfl) hfr C.hh hfk (by show A.depth + 1 + 1 + 4 * d < _; omega) (by show A.units + 1 + 3 + 16 * d + 80 < _; omega) (under_gd C.gd) (s := ⟨h', s.gens, s.drawn, s.toks, s.os⟩) Z.1 (.cons (.ref (D.last _)) (Z.2.vsr hv)) hz fun σ' v ρ' news' h'' tk y ok D' L' r' => ?_
      rw [← show (v, σ') = z from ok] at he
      cases r' with
      | none =>
        rw [← Option.some.inj he] at q
        exact ⟨rfl, q _ _ _ _ _ D' (Z.2.trans L') (L'.vr (.ref (D.last (x, some dx))))⟩
      | _ => cases he
  | none =>
    exact fun he hini => gdE he fun hz he => by
      rw [← Option.some.inj he] at q
      rw [List.isEmpty_iff.mp hz] at hv
      cases hv
      exact call_cls0 D.F C.X D.N cc.mkI (eq_ok hini) fun x dx h' F' N' lt lt2 =>
        have Z := newI D F' N' lt lt2
        q _ _ _ _ _ Z.1 Z.2 (.ref (D.last _))
theorem list_call {ρ σ m news} {s : Shared} {vs : List V} {xs : List Value} {r : V × H} (D : Dy NM h₀ L ρ σ m news s.heap) (hv : VsR ρ vs xs) (he : callS c cf .tyList vs σ = some r) {Q : Value → Shared → Prop} {E : Value → Shared → Prop} (q : Post NM h₀ L m ρ news r.2 r.1 Q s) : wpAny (model prog w) A (call (.type "list") xs) Q E s :=
  bsE he fun v hv1 he => bsE he fun i hi he => bdE he fun ys hy he => gdE he fun hz he => by
    obtain ⟨x, rfl, hx⟩ := hv.one hv1
    rw [← Option.some.inj he] at q
    refine D.isList (listAt_ok hy) hx hi fun a1 v1 n1 e1 p1 m1 r1 l1 => ?_
    rw [e1]
    exact wpAny_of_list (D.N _ m1).1 (by rw [List.size_toArray, r1.length]; exact size_ok hz (by decide)) fun h' c' hk' hD => newL D (fresh_size D) (D.F.keeps hk') (fun p hp => by
        rcases List.mem_cons.mp hp with rfl | hp
        · exact ⟨hD, Nat.ne_of_gt D.F.ns.lt, none_at_size D.F⟩
        · exact ⟨hk' _ _ (D.N p hp).1, (D.N p hp).2⟩) r1 q
noncomputable def callV (c : Cfg) (cf : CF) (fa : Addr) (vs : List V) (σ : H) (x : Option FX) : Option (V × H) := match x with
  | some fx => runF c cf fx vs σ
  | none => (lk c.T.cl fa).bind fun cx => newV c cf fa cx.init vs σ
theorem val_call (TB : TabOK K NM c) (HC : CallsOK prog w K NM d cf) (C : Cx prog w K NM env L h₀ A (d + 1)) {fa : Addr} {ρ σ m news} {s : Shared} {vs xs} {r : V × H} (D : Dy NM h₀ L ρ σ m news s.heap) (hv : VsR ρ vs xs) (he : callV c cf fa vs σ (lk c.T.fn fa) = some r) {Q : Value → Shared → Prop} {E : Value → Shared → Prop}
    (q : Post NM h₀ L m ρ news r.2 r.1 Q s) : wpAny (model prog w) A (call (.ref fa) xs) Q E s := by
  obtain ⟨p, loose, mean, mg, mb, T⟩ := C.Tp
  obtain ⟨A₀, base, fenv, outer, B, hA, hfr, hfk⟩ := C.B
  have dep := C.dep
  have un := C.un
  revert he
  cases hfx : lk c.T.fn fa with
  | some fx =>
    exact fun he => wpAny_call (fnrun_ok TB.G HC (TB.fn _ (lk_mem hfx)) C.X T B hA hfr C.hh hfk (by omega) (by omega) C.gd D hv he fun σ' v ρ' news' h' tk y ok D' L' r' => by
      rw [← ok] at q
      exact q _ _ _ _ _ D' L' r')
  | none => exact fun he => bdE he fun cx hcx he => new_ok TB HC C (TB.G.W.of hcx) D hv he q
theorem calls_ok (TB : TabOK K NM c) (d : Nat) : CallsOK prog w K NM d (callN c d) := by
  induction d with
  | zero => intro env L h₀ A C ρ σ σ' m news s fv vs r f xs Q E D hf hv he; cases he
  | succ d ih =>
    intro env L h₀ A C ρ σ σ' m news s fv vs r f xs Q E D hf hv he q
    cases hf with
    | val fa => exact val_call TB ih C D hv he q
    | bi b => exact biV_ok C.X TB.G.W C.hh C.gd (by have := C.un; omega) b D hv he q
    | tyList => exact list_call D hv he q
    | _ => cases he
end call
noncomputable def NM : List Str := [Str.ofString "self", Str.ofString "rows", Str.ofString "by_text", Str.ofString "title", Str.ofString "datum", Str.ofString "word", Str.ofString "__init__", Str.ofString "many", Str.ofString "least", Str.ofString "most", Str.ofString "name", Str.ofString "value", Str.ofString "number", Str.ofString "symbol", Str.ofString "test", Str.ofString "yes", Str.ofString "no", Str.ofString "label", Str.ofString "params", Str.ofString "rest", Str.ofString "body", Str.ofString "operator", Str.ofString "operands", Str.ofString "items", Str.ofString "numbers", Str.ofString "lambdas", Str.ofString "table", Str.ofString "values", Str.ofString "outer", Str.ofString "scope", Str.ofString "here", Str.ofString "kind", Str.ofString "node", Str.ofString "done", Str.ofString "depth", Str.ofString "needed", Str.ofString "frame", Str.ofString "found", Str.ofString "waiting", Str.ofString "pop", Str.ofString "part", Str.ofString "parts", Str.ofString "append", Str.ofString "store", Str.ofString "globals_table", Str.ofString "limit", Str.ofString "library", Str.ofString "tops", Str.ofString "assigned", Str.ofString "steps", Str.ofString "calls", Str.ofString "deepest", Str.ofString "look", Str.ofString "mode", Str.ofString "procedure", Str.ofString "finish", Str.ofString "step", Str.ofString "look_at", Str.ofString "make_call", Str.ofString "hand_on", Str.ofString "give", Str.ofString "local_value", Str.ofString "value_of", Str.ofString "closure", Str.ofString "push", Str.ofString "look_further", Str.ofString "go_on_with", Str.ofString "primitive", Str.ofString "op", Str.ofString "inner", Str.ofString "place", Str.ofString "put", Str.ofString "title_of", Str.ofString "call_next", Str.ofString "one_value", Str.ofString "assign", Str.ofString "add_operand", Str.ofString "add_primitive_operand", Str.ofString "enter", Str.ofString "control", Str.ofString "takes", Str.ofString "spread_out", Str.ofString "_law_deck_here", Str.ofString "_law_many", Str.ofString "_law_found", Str.ofString "_law_items", Str.ofString "_law_count", Str.ofString "_law_way", Str.ofString "_law_node", Str.ofString "_law_inner", Str.ofString "_law_taker", Str.ofString "_law_own", Str.ofString "_law_forms", Str.ofString "_law_ending", Str.ofString "_law_loop", Str.ofString "_law_head", Str.ofString "_law_rest", Str.ofString "_law_is_last", Str.ofString "_law_turn", Str.ofString "_law_at", Str.ofString "_law_body", Str.ofString "define", Str.ofString "run", Str.ofString "_law_few", Str.ofString "_law_more", Str.ofString "_law_told", Str.ofString "_law_deepest", Str.ofString "_law_tops", Str.ofString "_law_machine", Str.ofString "_law_waits", Str.ofString "_law_due_here", Str.ofString "_law_script", Str.ofString "_law_cells", Str.ofString "_law_mixed", Str.ofString "_law_cell", Str.ofString "script"]
noncomputable def f86 : FX := ⟨[0], [.asgA (.nm 0) 1 (.list []), .asgA (.nm 0) 2 (.dict0)]⟩
noncomputable def f170 : FX := ⟨[0, 3], [.asgA (.nm 0) 3 (.nm 3)]⟩
noncomputable def f211 : FX := ⟨[4], [.ret (.or (.not (.call (.cst (.bi .isinst)) [.nm 4, .cst .tyBool])) (.nm 4))]⟩
noncomputable def f423 : FX := ⟨[0, 5], [.expr (.meth (.cst (.val 173)) 6 [.nm 0, .call (.cst (.val 442)) [.nm 5]]), .asgA (.nm 0) 5 (.nm 5)]⟩
noncomputable def f435 : FX := ⟨[5], [.ifS (.not (.chain CmpOp.LtE CmpOp.Lt (.cst (.int 0)) (.nm 5) (.call (.cst (.bi .len)) [.cst (.val 409)]))) [.stop] [], .ret (.sub (.cst (.val 409)) (.nm 5))]⟩
noncomputable def f442 : FX := ⟨[5], [.ret (.sub (.call (.cst (.val 435)) [.nm 5]) (.cst (.int 0)))]⟩
noncomputable def f449 : FX := ⟨[7, 8, 9], [.ret (.and (.cmp CmpOp.LtE (.nm 8) (.nm 7)) (.or (.cmp CmpOp.Eq (.nm 9) (.neg (.cst (.int 1)))) (.cmp CmpOp.LtE (.nm 7) (.nm 9))))]⟩
noncomputable def f456 : FX := ⟨[5, 7], [.asgT false [10, 8, 9] (.call (.cst (.val 435)) [.nm 5]), .ifS (.not (.call (.cst (.val 449)) [.nm 7, .nm 8, .nm 9])) [.stop] []]⟩
noncomputable def f484 : FX := ⟨[0], [.ret (.list [])]⟩
noncomputable def f512 : FX := ⟨[0, 11], [.asgA (.nm 0) 11 (.nm 11)]⟩
noncomputable def f531 : FX := ⟨[0, 12], [.asgA (.nm 0) 12 (.nm 12)]⟩
noncomputable def f550 : FX := ⟨[0, 13], [.asgA (.nm 0) 13 (.nm 13)]⟩
noncomputable def f569 : FX := ⟨[0, 14, 15, 16], [.asgA (.nm 0) 14 (.nm 14), .asgA (.nm 0) 15 (.nm 15), .asgA (.nm 0) 16 (.nm 16)]⟩
noncomputable def f576 : FX := ⟨[0], [.ret (.list [.attr (.nm 0) 14, .attr (.nm 0) 15, .attr (.nm 0) 16])]⟩
noncomputable def f602 : FX := ⟨[0, 17, 18, 19, 20], [.asgA (.nm 0) 17 (.nm 17), .asgA (.nm 0) 18 (.nm 18), .asgA (.nm 0) 19 (.nm 19), .asgA (.nm 0) 20 (.nm 20)]⟩
noncomputable def f609 : FX := ⟨[0], [.ret (.list [.attr (.nm 0) 20])]⟩
noncomputable def f649 : FX := ⟨[0, 21, 22], [.asgA (.nm 0) 21 (.nm 21), .asgA (.nm 0) 22 (.nm 22)]⟩
noncomputable def f656 : FX := ⟨[0], [.ret (.bin Operator.Add (.list [.attr (.nm 0) 21]) (.attr (.nm 0) 22))]⟩
noncomputable def f682 : FX := ⟨[0, 23], [.asgA (.nm 0) 23 (.nm 23)]⟩
noncomputable def f689 : FX := ⟨[0], [.ret (.call (.cst .tyList) [.attr (.nm 0) 23])]⟩
noncomputable def f715 : FX := ⟨[0, 24, 25, 20], [.asgA (.nm 0) 24 (.nm 24), .asgA (.nm 0) 25 (.nm 25), .asgA (.nm 0) 20 (.nm 20)]⟩
noncomputable def f722 : FX := ⟨[0], [.ret (.bin Operator.Add (.attr (.nm 0) 25) (.list [.attr (.nm 0) 20]))]⟩
noncomputable def f748 : FX := ⟨[0, 26], [.asgA (.nm 0) 26 (.nm 26), .asgA (.nm 0) 27 (.dict0)]⟩
noncomputable def f762 : FX := ⟨[0, 13], [.ifS (.cmp CmpOp.NotIn (.nm 13) (.attr (.nm 0) 27)) [.stop] [], .ret (.sub (.attr (.nm 0) 27) (.nm 13))]⟩
noncomputable def f769 : FX := ⟨[0, 13, 11], [.asgS (.attr (.nm 0) 27) (.nm 13) (.nm 11)]⟩
noncomputable def f797 : FX := ⟨[0, 28], [.asgA (.nm 0) 28 (.nm 28), .asgA (.nm 0) 27 (.dict0)]⟩
noncomputable def f804 : FX := ⟨[0, 12, 11], [.asgS (.attr (.nm 0) 27) (.nm 12) (.nm 11)]⟩
noncomputable def f818 : FX := ⟨[29, 12], [.asgN 30 (.nm 29), .whileS (.cmp CmpOp.IsNot (.nm 30) (.cst .none)) [.ifS (.cmp CmpOp.In (.nm 12) (.attr (.nm 30) 27)) [.ret (.nm 30)] [], .asgN 30 (.attr (.nm 30) 28)], .stop]⟩
noncomputable def f832 : FX := ⟨[0, 31, 32, 29, 33, 28], [.asgA (.nm 0) 31 (.nm 31), .asgA (.nm 0) 32 (.nm 32), .asgA (.nm 0) 29 (.nm 29), .asgA (.nm 0) 33 (.nm 33), .asgA (.nm 0) 28 (.nm 28), .asgA (.nm 0) 34 (.ite (.cmp CmpOp.Is (.nm 28) (.cst .none)) (.cst (.int 1)) (.bin Operator.Add (.attr (.nm 28) 34) (.cst (.int 1))))]⟩
noncomputable def f853 : FX := ⟨[0, 32, 29, 3], [.expr (.meth (.cst (.val 173)) 6 [.nm 0, .nm 3]), .asgA (.nm 0) 32 (.nm 32), .asgA (.nm 0) 29 (.nm 29)]⟩
noncomputable def f860 : FX := ⟨[0, 7], [.asgN 35 (.call (.cst (.bi .len)) [.attr (.attr (.nm 0) 32) 18]), .ret (.call (.cst (.val 449)) [.nm 7, .nm 35, .ite (.cmp CmpOp.Eq (.attr (.attr (.nm 0) 32) 19) (.neg (.cst (.int 1)))) (.nm 35) (.neg (.cst (.int 1)))])]⟩
noncomputable def f879 : FX := ⟨[0, 36], [.expr (.meth (.cst (.val 173)) 6 [.nm 0, .cst (.str "continuation")]), .asgA (.nm 0) 36 (.nm 36)]⟩
noncomputable def f891 : FX := ⟨[32], [.asgN 37 (.dict0), .asgN 38 (.list [.nm 32]), .whileS (.cmp CmpOp.NotEq (.nm 38) (.list [])) [.asgN 30 (.meth (.nm 38) 39 []), .ifS (.cmp CmpOp.Eq (.attr (.nm 30) 31) (.cst (.int 3))) [.asgS (.nm 37) (.attr (.nm 30) 12) (.cst (.bool true))] [], .forL [40] (.meth (.nm 30) 41 []) [.expr (.meth (.nm 38) 42 [.nm 40])]], .ret (.call (.cst (.bi .sortedB)) [.nm 37])]⟩
noncomputable def f905 : FX := ⟨[0, 43], [.asgA (.nm 0) 43 (.nm 43)]⟩
noncomputable def f912 : FX := ⟨[0, 17], [.ret (.cst (.str ""))]⟩
noncomputable def f940 : FX := ⟨[0, 44, 45, 46], [.asgA (.nm 0) 47 (.nm 44), .asgA (.nm 0) 45 (.nm 45), .asgA (.nm 0) 46 (.nm 46), .asgA (.nm 0) 48 (.dict0), .asgA (.nm 0) 49 (.cst (.int 0)), .asgA (.nm 0) 50 (.cst (.int 0)), .asgA (.nm 0) 51 (.cst (.int 0)), .expr (.meth (.nm 0) 52 [.cst .none, .cst .none]), .asgA (.nm 0) 36 (.cst .none)]⟩
noncomputable def f947 : FX := ⟨[0, 32, 29], [.asgA (.nm 0) 53 (.cst (.int 0)), .asgA (.nm 0) 32 (.nm 32), .asgA (.nm 0) 29 (.nm 29), .asgA (.nm 0) 54 (.cst .none), .asgA (.nm 0) 27 (.list [])]⟩
noncomputable def f954 : FX := ⟨[0, 54, 22], [.asgA (.nm 0) 53 (.cst (.int 1)), .asgA (.nm 0) 32 (.cst .none), .asgA (.nm 0) 29 (.cst .none), .asgA (.nm 0) 54 (.nm 54), .asgA (.nm 0) 27 (.nm 22)]⟩
noncomputable def f961 : FX := ⟨[0, 27], [.asgA (.nm 0) 53 (.cst (.int 2)), .asgA (.nm 0) 32 (.cst .none), .asgA (.nm 0) 29 (.cst .none), .asgA (.nm 0) 54 (.cst .none), .asgA (.nm 0) 27 (.nm 27)]⟩
noncomputable def f968 : FX := ⟨[0, 31, 32, 29, 33], [.asgA (.nm 0) 36 (.call (.cst (.val 835)) [.nm 31, .nm 32, .nm 29, .nm 33, .attr (.nm 0) 36]), .ifS (.cmp CmpOp.Gt (.attr (.attr (.nm 0) 36) 34) (.attr (.nm 0) 51)) [.asgA (.nm 0) 51 (.attr (.attr (.nm 0) 36) 34)] []]⟩
noncomputable def f975 : FX := ⟨[0, 32], [.forL [12] (.call (.cst (.val 891)) [.nm 32]) [.asgS (.attr (.nm 0) 48) (.nm 12) (.cst (.bool true))], .asgA (.nm 0) 36 (.cst .none), .expr (.meth (.nm 0) 52 [.nm 32, .cst .none]), .ret (.meth (.nm 0) 55 [])]⟩
noncomputable def f982 : FX := ⟨[0], [.whileS (.or (.cmp CmpOp.NotEq (.attr (.nm 0) 53) (.cst (.int 2))) (.cmp CmpOp.IsNot (.attr (.nm 0) 36) (.cst .none))) [.expr (.meth (.nm 0) 56 [])], .ret (.attr (.nm 0) 27)]⟩
noncomputable def f989 : FX := ⟨[0], [.ifS (.cmp CmpOp.GtE (.attr (.nm 0) 49) (.attr (.nm 0) 45)) [.stop] [], .augA (.nm 0) 49 Operator.Add (.cst (.int 1)), .ifS (.cmp CmpOp.Eq (.attr (.nm 0) 53) (.cst (.int 0))) [.expr (.meth (.nm 0) 57 [.attr (.nm 0) 32, .attr (.nm 0) 29])] [.ifS (.cmp CmpOp.Eq (.attr (.nm 0) 53) (.cst (.int 1))) [.expr (.meth (.nm 0) 58 [.attr (.nm 0) 54, .attr (.nm 0) 27])] [.expr (.meth (.nm 0) 59 [.attr (.nm 0) 36, .attr (.nm 0) 27])]]]⟩
noncomputable def f996 : FX := ⟨[0, 32, 29], [.asgN 31 (.attr (.nm 32) 31), .ifS (.cmp CmpOp.Eq (.nm 31) (.cst (.int 0))) [.expr (.meth (.nm 0) 60 [.list [.attr (.nm 32) 11]])] [.ifS (.cmp CmpOp.Eq (.nm 31) (.cst (.int 1))) [.expr (.meth (.nm 0) 60 [.list [.meth (.nm 0) 61 [.attr (.nm 32) 12, .nm 29]]])] [.ifS (.cmp CmpOp.Eq (.nm 31) (.cst (.int 2))) [.expr (.meth (.nm 0) 60 [.list [.meth (.attr (.nm 0) 47) 62 [.attr (.nm 32) 13]]])] [.ifS (.cmp CmpOp.Eq (.nm 31) (.cst (.int 7))) [.expr (.meth (.nm 0) 60 [.list [.meth (.nm 0) 63 [.nm 32, .nm 29]]])] [.ifS (.cmp CmpOp.Eq (.nm 31) (.cst (.int 6))) [.expr (.meth (.nm 0) 64 [.cst (.int 0), .nm 32, .nm 29, .list []]), .expr (.meth (.nm 0) 52 [.attr (.nm 32) 14, .nm 29])] [.ifS (.or (.cmp CmpOp.Eq (.nm 31) (.cst (.int 3))) (.or (.cmp CmpOp.Eq (.nm 31) (.cst (.int 4))) (.cmp CmpOp.Eq (.nm 31) (.cst (.int 5))))) [.expr (.meth (.nm 0) 64 [.cst (.int 1), .nm 32, .nm 29, .list []]), .expr (.meth (.nm 0) 52 [.attr (.nm 32) 11, .nm 29])] [.ifS (.cmp CmpOp.Eq (.nm 31) (.cst (.int 8))) [.expr (.meth (.nm 0) 64 [.cst (.int 2), .nm 32, .nm 29, .list []]), .expr (.meth (.nm 0) 52 [.attr (.nm 32) 21, .nm 29])] [.expr (.meth (.nm 0) 65 [.nm 32, .nm 29])]]]]]]]]⟩
noncomputable def f1003 : FX := ⟨[0, 32, 29], [.ifS (.cmp CmpOp.Eq (.attr (.nm 32) 31) (.cst (.int 9))) [.expr (.meth (.nm 0) 66 [.nm 32, .nm 29, .cst (.int 0)])] [.ifS (.cmp CmpOp.Eq (.attr (.nm 32) 31) (.cst (.int 10))) [.ifS (.cmp CmpOp.Eq (.attr (.nm 32) 22) (.list [])) [.expr (.meth (.nm 0) 60 [.list [.meth (.nm 0) 67 [.attr (.nm 32) 68, .list []]]])] [.expr (.meth (.nm 0) 64 [.cst (.int 4), .nm 32, .nm 29, .list []]), .expr (.meth (.nm 0) 52 [.sub (.attr (.nm 32) 22) (.cst (.int 0)), .nm 29])]] [.ifS (.cmp CmpOp.Eq (.attr (.nm 32) 31) (.cst (.int 11))) [.asgN 69 (.call (.cst (.val 807)) [.nm 29]), .forR 70 [.call (.cst (.bi .len)) [.attr (.nm 32) 24]] [.expr (.meth (.nm 69) 71 [.sub (.attr (.nm 32) 24) (.nm 70), .meth (.nm 0) 63 [.sub (.attr (.nm 32) 25) (.nm 70), .nm 69]])], .expr (.meth (.nm 0) 52 [.attr (.nm 32) 20, .nm 69])] [.stop]]]]⟩
noncomputable def f1010 : FX := ⟨[0, 32, 29, 70], [.ifS (.cmp CmpOp.Lt (.nm 70) (.bin Operator.Sub (.call (.cst (.bi .len)) [.attr (.nm 32) 23]) (.cst (.int 1)))) [.expr (.meth (.nm 0) 64 [.cst (.int 3), .nm 32, .nm 29, .list [.nm 70]])] [], .expr (.meth (.nm 0) 52 [.sub (.attr (.nm 32) 23) (.nm 70), .nm 29])]⟩
noncomputable def f1017 : FX := ⟨[0, 12, 29], [.asgN 11 (.sub (.attr (.call (.cst (.val 818)) [.nm 29, .nm 12]) 27) (.nm 12)), .ifS (.and (.cmp CmpOp.Is (.nm 11) (.cst (.val 50))) (.cmp CmpOp.In (.nm 12) (.attr (.nm 0) 48))) [.stop] [], .ret (.nm 11)]⟩
noncomputable def f1024 : FX := ⟨[0, 32, 29], [.ret (.call (.cst (.val 863)) [.nm 32, .nm 29, .meth (.attr (.nm 0) 46) 72 [.attr (.nm 32) 17]])]⟩
noncomputable def f1038 : FX := ⟨[0, 27], [.ifS (.cmp CmpOp.NotEq (.call (.cst (.bi .len)) [.nm 27]) (.cst (.int 1))) [.stop] [], .ret (.sub (.nm 27) (.cst (.int 0)))]⟩
noncomputable def f1045 : FX := ⟨[0, 36, 27], [.asgA (.nm 0) 36 (.attr (.nm 36) 28), .ifS (.cmp CmpOp.Eq (.attr (.nm 36) 31) (.cst (.int 3))) [.expr (.meth (.nm 0) 66 [.attr (.nm 36) 32, .attr (.nm 36) 29, .bin Operator.Add (.sub (.attr (.nm 36) 33) (.cst (.int 0))) (.cst (.int 1))])] [.ifS (.cmp CmpOp.Eq (.attr (.nm 36) 31) (.cst (.int 5))) [.expr (.meth (.nm 0) 73 [.sub (.attr (.nm 36) 33) (.cst (.int 0)), .nm 27])] [.ifS (.cmp CmpOp.Eq (.attr (.nm 36) 31) (.cst (.int 0))) [.asgN 32 (.attr (.nm 36) 32), .expr (.meth (.nm 0) 52 [.ite (.call (.cst (.val 211)) [.meth (.nm 0) 74 [.nm 27]]) (.attr (.nm 32) 15) (.attr (.nm 32) 16), .attr (.nm 36) 29])] [.ifS (.cmp CmpOp.Eq (.attr (.nm 36) 31) (.cst (.int 1))) [.expr (.meth (.nm 0) 75 [.attr (.nm 36) 32, .attr (.nm 36) 29, .meth (.nm 0) 74 [.nm 27]])] [.ifS (.cmp CmpOp.Eq (.attr (.nm 36) 31) (.cst (.int 2))) [.expr (.meth (.nm 0) 76 [.nm 36, .meth (.nm 0) 74 [.nm 27]])] [.expr (.meth (.nm 0) 77 [.nm 36, .meth (.nm 0) 74 [.nm 27]])]]]]]]⟩
noncomputable def f1059 : FX := ⟨[0, 36, 11], [.asgN 32 (.attr (.nm 36) 32), .asgN 33 (.bin Operator.Add (.attr (.nm 36) 33) (.list [.nm 11])), .ifS (.cmp CmpOp.LtE (.call (.cst (.bi .len)) [.nm 33]) (.call (.cst (.bi .len)) [.attr (.nm 32) 22])) [.expr (.meth (.nm 0) 64 [.cst (.int 2), .nm 32, .attr (.nm 36) 29, .nm 33]), .expr (.meth (.nm 0) 52 [.sub (.attr (.nm 32) 22) (.bin Operator.Sub (.call (.cst (.bi .len)) [.nm 33]) (.cst (.int 1))), .attr (.nm 36) 29])] [.expr (.meth (.nm 0) 73 [.sub (.nm 33) (.cst (.int 0)), .from (.nm 33) (.cst (.int 1))])]]⟩
noncomputable def f1073 : FX := ⟨[0, 54, 22], [.augA (.nm 0) 50 Operator.Add (.cst (.int 1)), .ifS (.call (.cst (.bi .isinst)) [.nm 54, .cst (.val 863)]) [.expr (.meth (.nm 0) 78 [.nm 54, .nm 22])] [.ifS (.call (.cst (.bi .isinst)) [.nm 54, .cst (.val 194)]) [.expr (.meth (.nm 0) 60 [.list [.meth (.nm 0) 67 [.attr (.nm 54) 68, .nm 22]]])] [.ifS (.call (.cst (.bi .isinst)) [.nm 54, .cst (.val 882)]) [.asgA (.nm 0) 36 (.attr (.nm 54) 36), .expr (.meth (.nm 0) 60 [.nm 22])] [.ifS (.call (.cst (.bi .isinst)) [.nm 54, .cst (.val 426)]) [.expr (.call (.cst (.val 456)) [.attr (.nm 54) 5, .call (.cst (.bi .len)) [.nm 22]]), .expr (.meth (.nm 0) 79 [.attr (.nm 54) 5, .nm 22])] [.stop]]]]]⟩
noncomputable def f1080 : FX := ⟨[0, 54, 22], [.asgN 32 (.attr (.nm 54) 32), .ifS (.not (.meth (.nm 54) 80 [.call (.cst (.bi .len)) [.nm 22]])) [.stop] [], .asgN 69 (.call (.cst (.val 807)) [.attr (.nm 54) 29]), .asgN 35 (.call (.cst (.bi .len)) [.attr (.nm 32) 18]), .forR 70 [.nm 35] [.expr (.meth (.nm 69) 71 [.sub (.attr (.nm 32) 18) (.nm 70), .sub (.nm 22) (.nm 70)])], .ifS (.cmp CmpOp.NotEq (.attr (.nm 32) 19) (.neg (.cst (.int 1)))) [.expr (.meth (.nm 69) 71 [.attr (.nm 32) 19, .call (.cst (.val 204)) [.from (.nm 22) (.nm 35)]])] [], .expr (.meth (.nm 0) 52 [.attr (.nm 32) 20, .nm 69])]⟩
noncomputable def f1087 : FX := ⟨[0, 5, 22], [.ifS (.cmp CmpOp.Eq (.nm 5) (.cst (.int 1))) [.expr (.meth (.nm 0) 60 [.nm 22])] [.ifS (.cmp CmpOp.Eq (.nm 5) (.cst (.int 0))) [.asgT false [54, 81] (.call (.cst (.val 470)) [.attr (.attr (.nm 0) 46) 43, .nm 22]), .expr (.meth (.nm 0) 73 [.nm 54, .nm 81])] [.ifS (.cmp CmpOp.Eq (.nm 5) (.cst (.int 2))) [.expr (.meth (.nm 0) 64 [.cst (.int 5), .cst .none, .cst .none, .list [.sub (.nm 22) (.cst (.int 1))]]), .expr (.meth (.nm 0) 73 [.sub (.nm 22) (.cst (.int 0)), .list []])] [.ifS (.cmp CmpOp.Eq (.nm 5) (.cst (.int 3))) [.expr (.meth (.nm 0) 73 [.sub (.nm 22) (.cst (.int 0)), .list [.call (.cst (.val 882)) [.attr (.nm 0) 36]]])] [.stop]]]]]⟩
noncomputable def f1106 : FX := ⟨[82, 83], [.whileS (.and (.cmp CmpOp.NotEq (.sub (.nm 82) (.cst (.int 0))) (.list [])) (.cmp CmpOp.Eq (.sub (.sub (.nm 82) (.cst (.int 0))) (.cst (.int 0))) (.cst (.int 0)))) [.expr (.meth (.sub (.nm 82) (.cst (.int 0))) 39 [.cst (.int 0)])], .ifS (.cmp CmpOp.NotEq (.sub (.nm 82) (.cst (.int 0))) (.list [])) [.asgN 84 (.bin Operator.Mod (.sub (.sub (.nm 82) (.cst (.int 0))) (.cst (.int 0))) (.nm 83)), .asgS (.sub (.nm 82) (.cst (.int 0))) (.cst (.int 0)) (.bin Operator.FloorDiv (.sub (.sub (.nm 82) (.cst (.int 0))) (.cst (.int 0))) (.nm 83)), .ret (.nm 84)] [], .asgS (.nm 82) (.cst (.int 1)) (.bin Operator.Mod (.bin Operator.Add (.bin Operator.Mult (.sub (.nm 82) (.cst (.int 1))) (.cst (.int 48271))) (.cst (.int 11))) (.cst (.int 2147483647))), .ret (.bin Operator.Mod (.bin Operator.FloorDiv (.sub (.nm 82) (.cst (.int 1))) (.cst (.int 64))) (.nm 83))]⟩
noncomputable def f1113 : FX := ⟨[82, 85], [.ret (.sub (.nm 85) (.call (.cst (.val 1106)) [.nm 82, .call (.cst (.bi .len)) [.nm 85]]))]⟩
noncomputable def f1120 : FX := ⟨[86], [.asgS (.nm 86) (.cst (.int 0)) (.bin Operator.Add (.sub (.nm 86) (.cst (.int 0))) (.cst (.int 1))), .ret (.sub (.nm 86) (.cst (.int 0)))]⟩
noncomputable def f1127 : FX := ⟨[87, 88, 86], [.ifS (.cmp CmpOp.Eq (.nm 87) (.cst (.int 0))) [.ret (.call (.cst (.val 586)) [.call (.cst (.val 515)) [.cst (.bool true)], .nm 88, .call (.cst (.val 515)) [.cst (.int 0)]])] [], .ifS (.cmp CmpOp.Eq (.nm 87) (.cst (.int 1))) [.ret (.call (.cst (.val 699)) [.list [.call (.cst (.val 515)) [.cst (.int 1)], .call (.cst (.val 515)) [.cst (.int 2)], .nm 88]])] [], .ifS (.cmp CmpOp.Eq (.nm 87) (.cst (.int 2))) [.ret (.call (.cst (.val 666)) [.call (.cst (.val 633)) [.call (.cst (.val 1120)) [.nm 86], .list [.call (.cst (.val 1120)) [.nm 86]], .neg (.cst (.int 1)), .nm 88], .list [.call (.cst (.val 515)) [.cst (.int 3)]]])] [], .ifS (.cmp CmpOp.Eq (.nm 87) (.cst (.int 3))) [.asgN 89 (.call (.cst (.val 633)) [.call (.cst (.val 1120)) [.nm 86], .list [], .neg (.cst (.int 1)), .call (.cst (.val 515)) [.cst (.int 4)]]), .ret (.call (.cst (.val 732)) [.list [.call (.cst (.val 1120)) [.nm 86]], .list [.nm 89], .nm 88])] [], .asgN 90 (.call (.cst (.val 633)) [.call (.cst (.val 1120)) [.nm 86], .list [.call (.cst (.val 1120)) [.nm 86]], .neg (.cst (.int 1)), .nm 88]), .ifS (.cmp CmpOp.Eq (.nm 87) (.cst (.int 4))) [.ret (.call (.cst (.val 666)) [.call (.cst (.val 553)) [.cst (.int 1)], .list [.call (.cst (.val 633)) [.call (.cst (.val 1120)) [.nm 86], .list [], .neg (.cst (.int 1)), .call (.cst (.val 515)) [.cst (.int 5)]], .nm 90]])] [], .ret (.call (.cst (.val 666)) [.call (.cst (.val 553)) [.cst (.int 2)], .list [.nm 90]])]⟩
noncomputable def f1134 : FX := ⟨[87, 88, 86], [.ifS (.cmp CmpOp.Eq (.nm 87) (.cst (.int 0))) [.asgN 91 (.call (.cst (.val 1120)) [.nm 86]), .ret (.call (.cst (.val 666)) [.call (.cst (.val 633)) [.call (.cst (.val 1120)) [.nm 86], .list [.nm 91], .neg (.cst (.int 1)), .call (.cst (.val 534)) [.nm 91]], .list [.nm 88]])] [], .ifS (.cmp CmpOp.Eq (.nm 87) (.cst (.int 1))) [.ret (.call (.cst (.val 699)) [.list [.nm 88, .call (.cst (.val 515)) [.cst (.int 6)]]])] [], .ifS (.cmp CmpOp.Eq (.nm 87) (.cst (.int 2))) [.ret (.call (.cst (.val 586)) [.nm 88, .call (.cst (.val 515)) [.cst (.int 7)], .call (.cst (.val 515)) [.cst (.bool false)]])] [], .asgN 91 (.call (.cst (.val 1120)) [.nm 86]), .ret (.call (.cst (.val 666)) [.call (.cst (.val 633)) [.call (.cst (.val 1120)) [.nm 86], .list [.call (.cst (.val 1120)) [.nm 86], .nm 91], .neg (.cst (.int 1)), .call (.cst (.val 534)) [.nm 91]], .list [.call (.cst (.val 515)) [.cst (.int 8)], .nm 88]])]⟩
noncomputable def f1141 : FX := ⟨[92, 83, 93], [.asgT true [86, 94, 85] (.tup [.list [.cst (.int 0)], .cst (.int 1000), .call (.cst (.val 515)) [.cst (.bool false)]]), .asgT false [95, 96, 91] (.tup [.cst (.int 1001), .cst (.int 1002), .cst (.int 1003)]), .asgN 88 (.call (.cst (.val 666)) [.call (.cst (.val 534)) [.nm 94], .list [.call (.cst (.val 534)) [.nm 96]]]), .forL [97, 87] (.nm 92) [.asgN 88 (.ite (.nm 97) (.call (.cst (.val 1127)) [.nm 87, .nm 88, .nm 86]) (.call (.cst (.val 1134)) [.nm 87, .nm 88, .nm 86]))], .forR 98 [.nm 83] [.asgN 99 (.call (.cst (.val 1120)) [.nm 86]), .asgN 85 (.call (.cst (.val 633)) [.call (.cst (.val 1120)) [.nm 86], .list [.nm 99], .neg (.cst (.int 1)), .call (.cst (.val 666)) [.call (.cst (.val 534)) [.nm 99], .list [.call (.cst (.val 515)) [.nm 98], .nm 85]]])], .asgN 90 (.call (.cst (.val 633)) [.cst (.int 1004), .list [.nm 95, .nm 96], .neg (.cst (.int 1)), .nm 88]), .asgN 100 (.call (.cst (.val 586)) [.call (.cst (.val 534)) [.nm 91], .call (.cst (.val 666)) [.call (.cst (.val 534)) [.nm 91], .list [.nm 90]], .call (.cst (.val 515)) [.nm 93]]), .ret (.call (.cst (.val 732)) [.list [.nm 94], .list [.call (.cst (.val 633)) [.cst (.int 1005), .list [.nm 91], .neg (.cst (.int 1)), .nm 100]], .call (.cst (.val 666)) [.call (.cst (.val 534)) [.nm 94], .list [.nm 85]]])]⟩
noncomputable def f1148 : FX := ⟨[92, 83, 93], [.asgN 84 (.nm 93), .forR 98 [.nm 83] [.forL [97, 87] (.nm 92) [.ifS (.and (.not (.nm 97)) (.cmp CmpOp.Eq (.nm 87) (.cst (.int 1)))) [.asgN 84 (.cst (.int 6))] [], .ifS (.and (.not (.nm 97)) (.cmp CmpOp.Eq (.nm 87) (.cst (.int 2)))) [.asgN 84 (.ite (.cmp CmpOp.NotEq (.call (.cst (.bi .reprB)) [.nm 84]) (.cst (.str "False"))) (.cst (.int 7)) (.cst (.bool false)))] []]], .ret (.nm 84)]⟩
noncomputable def tFn : List (Addr × FX) := [(86, f86), (170, f170), (211, f211), (423, f423), (435, f435), (442, f442), (449, f449), (456, f456), (484, f484), (512, f512), (531, f531), (550, f550), (569, f569), (576, f576), (602, f602), (609, f609), (649, f649), (656, f656), (682, f682), (689, f689), (715, f715), (722, f722), (748, f748), (762, f762), (769, f769), (797, f797), (804, f804), (818, f818), (832, f832), (853, f853), (860, f860), (879, f879), (891, f891), (905, f905), (912, f912), (940, f940), (947, f947), (954, f954), (961, f961), (968, f968), (975, f975), (982, f982), (989, f989), (996, f996), (1003, f1003), (1010, f1010), (1017, f1017), (1024, f1024), (1038, f1038), (1045, f1045), (1059, f1059), (1073, f1073), (1080, f1080), (1087, f1087), (1106, f1106), (1113, f1113), (1120, f1120), (1127, f1127), (1134, f1134), (1141, f1141), (1148, f1148)]
noncomputable def c131 : CX := ⟨some 86, [1, 2], [], [], [131], [], []⟩
noncomputable def c173 : CX := ⟨some 170, [3], [], [], [173], [], [(6, 170)]⟩
noncomputable def c426 : CX := ⟨some 423, [5, 3], [], [], [426, 173], [863, 194, 882], []⟩
noncomputable def c515 : CX := ⟨some 512, [11], [(41, 484)], [(31, .int 0)], [515, 494], [], []⟩
noncomputable def c534 : CX := ⟨some 531, [12], [(41, 484)], [(31, .int 1)], [534, 494], [], []⟩
noncomputable def c553 : CX := ⟨some 550, [13], [(41, 484)], [(31, .int 2)], [553, 494], [], []⟩
noncomputable def c586 : CX := ⟨some 569, [14, 15, 16], [(41, 576)], [(31, .int 6)], [586, 494], [], []⟩
noncomputable def c633 : CX := ⟨some 602, [17, 18, 19, 20], [(41, 609)], [(31, .int 7)], [633, 494], [], []⟩
noncomputable def c666 : CX := ⟨some 649, [21, 22], [(41, 656)], [(31, .int 8)], [666, 494], [], []⟩
noncomputable def c699 : CX := ⟨some 682, [23], [(41, 689)], [(31, .int 9)], [699, 494], [], []⟩
noncomputable def c732 : CX := ⟨some 715, [24, 25, 20], [(41, 722)], [(31, .int 11)], [732, 494], [], []⟩
noncomputable def c779 : CX := ⟨some 748, [26, 27], [(62, 762), (101, 769)], [], [779], [], []⟩
noncomputable def c807 : CX := ⟨some 797, [28, 27], [(71, 804)], [], [807], [], []⟩
noncomputable def c835 : CX := ⟨some 832, [31, 32, 29, 33, 28, 34], [], [], [835], [], []⟩
noncomputable def c863 : CX := ⟨some 853, [32, 29, 3], [(80, 860)], [], [863, 173], [194, 882, 426], []⟩
noncomputable def c882 : CX := ⟨some 879, [36, 3], [], [], [882, 173], [863, 194, 426], []⟩
noncomputable def c922 : CX := ⟨some 905, [43], [(72, 912)], [], [922], [], []⟩
noncomputable def c1090 : CX := ⟨some 940, [47, 45, 46, 48, 49, 50, 51, 36, 53, 32, 29, 54, 27], [(52, 947), (73, 954), (60, 961), (64, 968), (102, 975), (55, 982), (56, 989), (57, 996), (65, 1003), (66, 1010), (61, 1017), (63, 1024), (74, 1038), (59, 1045), (76, 1059), (58, 1073), (78, 1080), (79, 1087)], [], [1090], [], []⟩
noncomputable def tCl : List (Addr × CX) := [(131, c131), (173, c173), (426, c426), (515, c515), (534, c534), (553, c553), (586, c586), (633, c633), (666, c666), (699, c699), (732, c732), (779, c779), (807, c807), (835, c835), (863, c863), (882, c882), (922, c922), (1090, c1090)]
noncomputable def tTp : List (Addr × List V) := [(405, [.str "apply", .int 2, .int (-1)]), (406, [.str "values", .int 0, .int (-1)]), (407, [.str "call-with-values", .int 2, .int 2]), (408, [.str "%call/cc", .int 1, .int 1]), (409, [.val 405, .val 406, .val 407, .val 408])]
noncomputable def cfg : Cfg := ⟨⟨tFn, tCl, [50], tTp, fun _ => true, fun _ => false, fun _ => none, fun _ _ _ => none⟩, 42, 39⟩
theorem nm_nodup : NM.Nodup := by decide +kernel
theorem nm_ok' : nmOk NM := fun i j x hi hj => by
  rw [at_getElem] at hi hj
  obtain ⟨h1, e1⟩ := List.getElem?_eq_some_iff.mp hi
  obtain ⟨h2, e2⟩ := List.getElem?_eq_some_iff.mp hj
  exact (List.getElem_inj nm_nodup).mp (e1.trans e2.symm)
theorem all_cut {α : Type} {f : α → Bool} (k : Nat) {l : List α} (h1 : (l.take k).all f = true) (h2 : (l.drop k).all f = true) : l.all f = true := by
  rw [← List.take_append_drop k l, List.all_append, h1, h2]; rfl
theorem fn_ok1 (P : Params) : ((tFn.take 24).all fun p => fnB (HD.K P) NM p.1 p.2) = true := by kernel_rfl
theorem fn_ok2 (P : Params) : (((tFn.drop 24).take 14).all fun p => fnB (HD.K P) NM p.1 p.2) = true := by kernel_rfl
theorem fn_ok3 (P : Params) : ((((tFn.drop 24).drop 14).take 12).all fun p => fnB (HD.K P) NM p.1 p.2) = true := by kernel_rfl
theorem fn_ok4 (P : Params) : ((((tFn.drop 24).drop 14).drop 12).all fun p => fnB (HD.K P) NM p.1 p.2) = true := by kernel_rfl
theorem fn_ok (P : Params) : (tFn.all fun p => fnB (HD.K P) NM p.1 p.2) = true := all_cut 24 (fn_ok1 P) (all_cut 14 (fn_ok2 P) (all_cut 12 (fn_ok3 P) (fn_ok4 P)))
theorem cl_ok (P : Params) : (tCl.all fun p => clB (HD.K P) NM p.1 p.2) = true := by kernel_rfl
theorem kp_ok (P : Params) : kpB (HD.K P) cfg.T = true := by kernel_rfl
theorem gl_ok (P : Params) : glB (HD.K P) = true := by kernel_rfl
theorem ob_ok (P : Params) : obB (HD.K P) 50 = true := by kernel_rfl
theorem tp_ok (P : Params) : (tTp.all fun p => tpB (HD.K P) p.1 p.2) = true := by kernel_rfl
theorem tab_ok (P : Params) : TabOK (HD.K P) NM cfg where
  G := ⟨⟨fun p hp => List.all_eq_true.mp (cl_ok P) p hp, gl_ok P, fun a ha => (by rcases List.mem_cons.mp ha with rfl | ha; exact ob_ok P; cases ha), nm_ok', fun p hp => List.all_eq_true.mp (tp_ok P) p hp⟩, kp_ok P, by decide +kernel, by decide +kernel⟩
  fn := fun p hp => List.all_eq_true.mp (fn_ok P) p hp
end MP
end
section
namespace MP
open PySem (CmpOp Operator)
structure Tr where
  ix : List Nat
  nu : List V
  L : Nat
noncomputable def adT (R : Tr) (i : Nat) : Nat := match at? R.ix i with
  | some a => a
  | none => R.L + (i - R.ix.length)
noncomputable def nuV (R : Tr) (j : Nat) : V := match at? R.nu j with
  | some v => v
  | none => .none
noncomputable def trV (R : Tr) : V → V
  | .ref i => .ref (adT R i)
  | .opq j => nuV R j
  | v => v
noncomputable def trF (R : Tr) (l : List (Nat × V)) : List (Nat × V) := l.map fun p => (p.1, trV R p.2)
noncomputable def trD (R : Tr) (l : List (Int × V)) : List (Int × V) := l.map fun p => (p.1, trV R p.2)
noncomputable def trL (R : Tr) (l : List V) : List V := l.map (trV R)
noncomputable def trO (R : Tr) : O → O
  | .inst C fs => .inst C (trF R fs)
  | .list xs => .list (trL R xs)
  | .tup xs => .tup (trL R xs)
  | .dict es => .dict (trD R es)
noncomputable def trK (R : Tr) : Fl → Fl
  | .ret v => .ret (trV R v)
  | f => f
structure HR (R : Tr) (σ0 s σ : H) : Prop where
  len : σ.length + R.ix.length = R.L + s.length
  le : R.ix.length ≤ s.length
  obj : ∀ i o, at? s i = some o → at? σ (adT R i) = some (trO R o)
  ext : ∀ j o, at? R.ix 0 ≠ some j → at? σ0 j = some o → at? σ j = some o
structure TrOK (T S : Tab) (R : Tr) (σ0 : H) : Prop where
  fn : S.fn = T.fn
  cl : S.cl = T.cl
  ob : S.ob = T.ob
  tp : S.tp = T.tp
  mu : ∀ i, S.mu i = true → i = 0 ∨ R.ix.length ≤ i
  muT : ∀ i, T.mu i = true
  ok : ∀ j, S.ok j = true → okV T (nuV R j) = true
  inc : ∀ j k, S.inc j = some k → ∃ x, nuV R j = .int x ∧ nuV R k = .int (x + 1)
  cmp : ∀ op a b r, S.cmp op a b = some r → ∃ x y, trV R a = .int x ∧ trV R b = .int y ∧ cmpI op x y = some r
  vals : ∀ C cx a u, lk T.cl C = some cx → lk cx.vals a = some u → isCst u = true
  tps : ∀ a xs, lk T.tp a = some xs → xs.all isCst = true
  lt : ∀ i a, at? R.ix i = some a → a < R.L
  ne : ∀ i a, at? R.ix (i + 1) = some a → at? R.ix 0 ≠ some a
  L : R.L = σ0.length
noncomputable def Ok {α : Type} (W : α → Prop) (y : Option α) : Prop := ∃ z, y = some z ∧ W z
theorem Ok.pure {α : Type} {W : α → Prop} {z : α} (h : W z) : Ok W (some z) := ⟨z, rfl, h⟩
theorem Ok.bind {α β : Type} {W : α → Prop} {W' : β → Prop} {y : Option α} {g : α → Option β} (h : Ok W y) (k : ∀ z, W z → Ok W' (g z)) : Ok W' (y.bind g) := by
  obtain ⟨z, e, w⟩ := h
  rw [e]; exact k z w
theorem Ok.map {α β : Type} {W : α → Prop} {W' : β → Prop} {y : Option α} {g : α → β} (h : Ok W y) (k : ∀ z, W z → W' (g z)) : Ok W' (y.map g) := by
  obtain ⟨z, e, w⟩ := h
  rw [e]; exact ⟨_, rfl, k z w⟩
theorem Ok.gd {α : Type} {W : α → Prop} {b : Bool} {y : Option α} (e : b = true) (h : Ok W y) : Ok W (gd b y) := by subst e; exact h
theorem Ok.eq {α : Type} {W : α → Prop} {y y' : Option α} (h : Ok W y) (e : y' = y) : Ok W y' := by subst e; exact h
section maps
variable {R : Tr}
theorem at_map {α β : Type} (f : α → β) (l : List α) : ∀ i, at? (l.map f) i = (at? l i).map f := by
  induction l with
  | nil => intro i; rfl
  | cons a l ih => intro i; cases i with
    | zero => rfl
    | succ i => exact ih i
theorem set_map {α β : Type} (f : α → β) (l : List α) (y : α) : ∀ i, setAt (l.map f) i (f y) = (setAt l i y).map f := by
  induction l with
  | nil => intro i; rfl
  | cons a l ih => intro i; cases i with
    | zero => rfl
    | succ i => exact congrArg (f a :: ·) (ih i)
theorem lk_tr (l : List (Nat × V)) (a : Nat) : lk (trF R l) a = (lk l a).map (trV R) := by
  induction l with
  | nil => rfl
  | cons p l ih =>
    show (bif Nat.beq p.1 a then some (trV R p.2) else lk (trF R l) a) = (bif Nat.beq p.1 a then some p.2 else lk l a).map (trV R)
    cases Nat.beq p.1 a with
    | true => rfl
    | false => exact ih
theorem put_tr (l : List (Nat × V)) (a : Nat) (v : V) : put (trF R l) a (trV R v) = trF R (put l a v) := by
  induction l with
  | nil => rfl
  | cons p l ih =>
    show (bif Nat.beq p.1 a then (p.1, trV R v) :: trF R l else (p.1, trV R p.2) :: put (trF R l) a (trV R v)) = trF R (bif Nat.beq p.1 a then (p.1, v) :: l else (p.1, p.2) :: put l a v)
    cases Nat.beq p.1 a with
    | true => rfl
    | false => exact congrArg ((p.1, trV R p.2) :: ·) ih
theorem lkI_tr (l : List (Int × V)) (a : Int) : lkI (trD R l) a = (lkI l a).map (trV R) := by
  induction l with
  | nil => rfl
  | cons p l ih =>
    show (if p.1 = a then some (trV R p.2) else lkI (trD R l) a) = (if p.1 = a then some p.2 else lkI l a).map (trV R)
    by_cases h : p.1 = a
    · rw [if_pos h, if_pos h]; rfl
    · rw [if_neg h, if_neg h]; exact ih
theorem zip_tr (is : List Nat) : ∀ vs : List V, is.zip (trL R vs) = trF R (is.zip vs) := by
  induction is with
  | nil => intro vs; rfl
  | cons i is ih => intro vs; cases vs with
    | nil => rfl
    | cons v vs => exact congrArg ((i, trV R v) :: ·) (ih vs)
theorem trL_len (xs : List V) : (trL R xs).length = xs.length := List.length_map _
theorem cst_tr {v : V} (h : isCst v = true) : trV R v = v := by cases v <;> first | rfl | cases h
theorem csts_tr {xs : List V} (h : xs.all isCst = true) : trL R xs = xs := by
  induction xs with
  | nil => rfl
  | cons x xs ih => exact anE h fun h1 h2 => by show trV R x :: trL R xs = _; rw [cst_tr h1, ih h2]
end maps
section sim
variable {T S : Tab} {R : Tr} {σ0 s σ : H}
theorem HR.new (h : HR R σ0 s σ) (o : O) : HR R σ0 (s ++ [o]) (σ ++ [trO R o]) := by
  refine ⟨by rw [List.length_append, List.length_append, ← Nat.add_assoc, ← h.len]; exact Nat.add_right_comm _ _ _, by rw [List.length_append]; exact Nat.le_add_right_of_le h.le, fun i x hx => ?_, fun j x hj hx => at_app (h.ext j x hj hx)⟩
  rcases at_app_cases hx with hx | ⟨hi, hx⟩
  · exact at_app (h.obj i x hx)
  · have e : adT R i = σ.length := by
      unfold adT
      cases hc : at? R.ix i with
      | some a => exact absurd (at_lt hc) (by rw [hi]; exact Nat.not_lt.mpr h.le)
      | none => have := h.len; have := h.le; show R.L + (i - R.ix.length) = _; omega
    rw [hx, e]
    exact at_end _ _
theorem HR.ref (h : HR R σ0 s σ) : V.ref σ.length = trV R (.ref s.length) := by
  show V.ref σ.length = V.ref (adT R s.length)
  unfold adT
  cases hc : at? R.ix s.length with
  | some a => exact absurd (at_lt hc) (Nat.not_lt.mpr h.le)
  | none => have := h.len; have := h.le; exact congrArg V.ref (by show _ = R.L + (s.length - R.ix.length); omega)
theorem ad_inj (K : TrOK T S R σ0) {i j : Nat} (hi : S.mu i = true) (e : adT R i = adT R j) : i = j := by
  unfold adT at e
  have hm := K.mu i hi
  cases h1 : at? R.ix i with
  | some a =>
    have l1 := at_lt h1
    have i0 : i = 0 := hm.resolve_right (Nat.not_le.mpr l1)
    subst i0
    cases h2 : at? R.ix j with
    | some b =>
      rw [h1, h2] at e
      have e2 : a = b := e
      cases j with
      | zero => rfl
      | succ j => exact absurd (e2 ▸ h1) (K.ne j b h2)
    | none =>
      rw [h1, h2] at e
      have e : a = R.L + (j - R.ix.length) := e
      have := K.lt 0 a h1
      omega
  | none =>
    have l1 : R.ix.length ≤ i := Nat.le_of_not_lt fun q => by obtain ⟨x, hx⟩ := at_some q; rw [h1] at hx; cases hx
    cases h2 : at? R.ix j with
    | some b =>
      rw [h1, h2] at e
      have e : R.L + (i - R.ix.length) = b := e
      have := K.lt j b h2
      omega
    | none =>
      have l2 : R.ix.length ≤ j := Nat.le_of_not_lt fun q => by obtain ⟨x, hx⟩ := at_some q; rw [h2] at hx; cases hx
      rw [h1, h2] at e
      have e : R.L + (i - R.ix.length) = R.L + (j - R.ix.length) := e
      omega
theorem HR.set (K : TrOK T S R σ0) (h : HR R σ0 s σ) {i : Nat} (hm : S.mu i = true) (y : O) : HR R σ0 (setAt s i y) (setAt σ (adT R i) (trO R y)) := by
  refine ⟨by rw [setAt_length, setAt_length]; exact h.len, by rw [setAt_length]; exact h.le, fun j x hx => ?_, fun j x hj hx => ?_⟩
  · rw [at_setAt] at hx ⊢
    by_cases e : i = j
    · rw [if_pos e] at hx
      rw [if_pos (congrArg _ e)]
      obtain ⟨z, hz, e2⟩ := Option.map_eq_some_iff.mp hx
      rw [h.obj j z hz, ← e2]
      rfl
    · rw [if_neg e] at hx
      rw [if_neg fun c => e (ad_inj K hm c)]
      exact h.obj j x hx
  · rw [at_setAt, if_neg]
    · exact h.ext j x hj hx
    · intro c
      unfold adT at c
      cases hc : at? R.ix i with
      | some a =>
        rw [hc] at c
        have c : a = j := c
        rcases K.mu i hm with e | e
        · rw [e] at hc; exact hj (c ▸ hc)
        · exact absurd (at_lt hc) (Nat.not_lt.mpr e)
      | none =>
        rw [hc] at c
        have c : R.L + (i - R.ix.length) = j := c
        have := at_lt hx
        rw [← K.L] at this
        omega
theorem HR.list (h : HR R σ0 s σ) {i : Nat} {xs : List V} (e : listAt s i = some xs) : listAt σ (adT R i) = some (trL R xs) := by
  unfold listAt
  rw [h.obj i _ (listAt_ok e)]; rfl
theorem HR.tup (h : HR R σ0 s σ) {i : Nat} {xs : List V} (e : tupAt s i = some xs) : tupAt σ (adT R i) = some (trL R xs) := by
  unfold tupAt
  rw [h.obj i _ (tupAt_ok e)]; rfl
theorem HR.dict (h : HR R σ0 s σ) {i : Nat} {xs : List (Int × V)} (e : dictAt s i = some xs) : dictAt σ (adT R i) = some (trD R xs) := by
  unfold dictAt
  rw [h.obj i _ (dictAt_ok e)]; rfl
theorem ok_tr (K : TrOK T S R σ0) {v : V} (h : okV S v = true) : okV T (trV R v) = true := by
  cases v with
  | opq j => exact K.ok j h
  | bi b => cases h
  | _ => rfl
theorem getA_sim (K : TrOK T S R σ0) (h : HR R σ0 s σ) {v u : V} {a : Nat} (e : getA S v a s = some u) : getA T (trV R v) a σ = some (trV R u) :=
  bsE e fun i hi e => bdE e fun o ho e => bsE e fun p hp e => bdE e fun cx hcx e => by
    rw [K.cl] at hcx
    rw [hi]
    show (at? σ (adT R i)).bind (getO T a) = _
    rw [h.obj i o ho, show o = _ from hp]
    show (lk T.cl p.1).bind (fun cx => getF T cx a (lk (trF R p.2) a)) = _
    rw [hcx, lk_tr]
    show getF T cx a ((lk p.2 a).map (trV R)) = _
    have e : getF S cx a (lk p.2 a) = some u := e
    revert e
    cases lk p.2 a with
    | some w =>
      exact fun e => gdE e fun e1 e => gdE e fun e2 e => by
        cases e
        show gd (okV T (trV R u)) (gd (mem cx.own a) (some (trV R u))) = _
        rw [ok_tr K e1, e2]
        rfl
    | none =>
      intro e
      show lk cx.vals a = _
      rw [show lk cx.vals a = some u from e, cst_tr (K.vals _ _ _ _ hcx e)]
noncomputable def WM (R : Tr) (r z : V × List V) : Prop := z = (trV R r.1, trL R r.2)
theorem getM_sim (K : TrOK T S R σ0) (h : HR R σ0 s σ) {v : V} {r : V × List V} {a ap po : Nat} (e : getM S v a s ap po = some r) : getM T (trV R v) a σ ap po = some (trV R r.1, trL R r.2) := by
  cases v with
  | ref i =>
    refine bdE e fun o ho e => ?_
    show (at? σ (adT R i)).bind (getMO T a ap po (adT R i)) = _
    rw [h.obj i o ho]
    cases o with
    | inst C fs =>
      refine bdE e fun cx hcx e => ?_
      rw [K.cl] at hcx
      show (lk T.cl C).bind (fun cx => methF cx a (adT R i) (lk (trF R fs) a)) = _
      rw [hcx, lk_tr]
      show methF cx a (adT R i) ((lk fs a).map (trV R)) = _
      revert e
      cases lk fs a with
      | some w => exact fun e => by cases e
      | none =>
        exact fun e => mpE e fun f hf e => by
          cases e
          show (lk cx.meths a).map (fun f => (V.val f, [V.ref (adT R i)])) = _
          rw [hf]; rfl
    | list xs =>
      refine cdE e (fun hb e => ?_) fun hb e => gdE e fun hp e => ?_
      · cases e
        show (bif Nat.beq a ap then some (V.bi .append, [V.ref (adT R i)]) else _) = _
        rw [hb]; rfl
      · cases e
        show (bif Nat.beq a ap then some (V.bi .append, [V.ref (adT R i)]) else gd (Nat.beq a po) (some (V.bi .pop, [V.ref (adT R i)]))) = _
        rw [hb, hp]; rfl
    | _ => cases e
  | val C =>
    exact bdE e fun cx hcx e => mpE e fun f hf e => by
      rw [K.cl] at hcx
      cases e
      show (lk T.cl C).bind (fun cx => (lk cx.cm a).map fun f => (V.val f, ([] : List V))) = _
      rw [hcx]
      show (lk cx.cm a).map (fun f => (V.val f, ([] : List V))) = _
      rw [hf]; rfl
  | _ => cases e
theorem setA_sim (K : TrOK T S R σ0) (h : HR R σ0 s σ) {o v : V} {a : Nat} {s' : H} (e : setA S o a v s = some s') : Ok (HR R σ0 s') (setA T (trV R o) a (trV R v) σ) :=
  bsE e fun i hi e => gdE e fun hm e => bdE e fun x hx e => mpE e fun y hy e => bsE hy fun p hp e2 => bdE e2 fun cx hcx e2 => gdE e2 fun h1 e2 => gdE e2 fun h2 e2 => by
    rw [K.cl] at hcx
    rw [hi]
    show Ok _ (gd (T.mu (adT R i)) ((at? σ (adT R i)).bind fun x => (setO T a (trV R v) x).map fun y => setAt σ (adT R i) y))
    refine .gd (K.muT _) ?_
    rw [h.obj i x hx, show x = _ from hp]
    have z : setO T a (trV R v) (trO R (.inst p.1 p.2)) = some (trO R y) := by
      show (lk T.cl p.1).bind (fun cx => gd (mem cx.own a) (gd (Nat.ble (put (trF R p.2) a (trV R v)).length 100) (some (O.inst p.1 (put (trF R p.2) a (trV R v)))))) = _
      rw [hcx, put_tr]
      show gd (mem cx.own a) (gd (Nat.ble (trF R (put p.2 a v)).length 100) (some (O.inst p.1 (trF R (put p.2 a v))))) = _
      rw [show (trF R (put p.2 a v)).length = (put p.2 a v).length from List.length_map _, h1, show Nat.ble (put p.2 a v).length 100 = true from h2, ← Option.some.inj e2]
      rfl
    show Ok _ ((setO T a (trV R v) (trO R (.inst p.1 p.2))).map fun y => setAt σ (adT R i) y)
    rw [z, ← e]
    exact .pure (h.set K hm y)
end sim
noncomputable def WV (R : Tr) (σ0 : H) (r z : V × H) : Prop := z.1 = trV R r.1 ∧ HR R σ0 r.2 z.2
noncomputable def WB (R : Tr) (σ0 : H) (r z : Bool × H) : Prop := z.1 = r.1 ∧ HR R σ0 r.2 z.2
noncomputable def WL (R : Tr) (σ0 : H) (r z : List V × H) : Prop := z.1 = trL R r.1 ∧ HR R σ0 r.2 z.2
section sim
variable {T S : Tab} {R : Tr} {σ0 s σ : H}
theorem lit_tr {k : Int} {v : V} (h : isLit k v = true) : isLit k (trV R v) = true := by
  cases v with
  | int i => exact h
  | _ => cases h
theorem lit_eq {k : Int} {v : V} (h : isLit k v = true) : v = .int k := by
  cases v with
  | int i => rw [show i = k from eq_ok h]
  | _ => cases h
theorem binV_sim (K : TrOK T S R σ0) (h : HR R σ0 s σ) {op : Operator} {a b : V} {r : V × H} (e : binV S op a b s = some r) : Ok (WV R σ0 r) (binV T op (trV R a) (trV R b) σ) := by
  cases a with
  | int x =>
    exact bsE e fun y hy e => mpE e fun z hz e => by
      rw [hy, ← e]
      show Ok (WV R σ0 _) ((opI op x y).map fun z => (V.int z, σ))
      rw [show opI op x y = some z from hz]
      exact .pure ⟨rfl, h⟩
  | ref i =>
    exact gdE e fun ho e => bsE e fun j hj e => bdE e fun xs h1 e => bdE e fun ys h2 e => gdE e fun hz e => by
      rw [hj, ← Option.some.inj e]
      show Ok (WV R σ0 _) (gd (isAdd op) ((listAt σ (adT R i)).bind fun xs => (listAt σ (adT R j)).bind fun ys => gd (Nat.ble (xs.length + ys.length) 10000) (some (.ref σ.length, σ ++ [.list (xs ++ ys)]))))
      rw [ho, h.list h1, h.list h2]
      show Ok (WV R σ0 _) (gd (Nat.ble ((trL R xs).length + (trL R ys).length) 10000) (some (.ref σ.length, σ ++ [.list (trL R xs ++ trL R ys)])))
      rw [trL_len, trL_len, hz]
      refine .pure ⟨h.ref, ?_⟩
      rw [show trL R xs ++ trL R ys = trL R (xs ++ ys) from (List.map_append).symm]
      exact h.new (.list (xs ++ ys))
  | opq j =>
    exact gdE e fun ho e => gdE e fun hl e => mpE e fun k hk e => by
      obtain ⟨x, e1, e2⟩ := K.inc j k hk
      rw [lit_eq hl, ← e]
      show Ok (WV R σ0 _) (binV T op (nuV R j) (.int 1) σ)
      rw [e1, isAdd_ok ho]
      exact .pure ⟨e2.symm, h⟩
  | _ => cases e
theorem augV_sim (K : TrOK T S R σ0) {op : Operator} {a b z : V} (e : augV S op a b = some z) : augV T op (trV R a) (trV R b) = some (trV R z) :=
  gdE e fun ho e => by
    unfold augV
    rw [ho]
    cases a with
    | int x =>
      exact msE e fun y hy e => by
        rw [hy, ← e]; rfl
    | opq j =>
      exact gdE e fun hl e => mpE e fun k hk e => by
        obtain ⟨x, e1, e2⟩ := K.inc j k hk
        rw [lit_eq hl, ← e, show trV R (.opq j) = .int x from e1, show trV R (.opq k) = .int (x + 1) from e2]; rfl
    | _ => cases e
theorem isV_sim (K : TrOK T S R σ0) {a b : V} {r : Bool} (e : isV S a b = some r) : isV T (trV R a) (trV R b) = some r := by
  cases b with
  | none => cases a <;> first | exact e | cases e
  | val q =>
    have e : isVa S q a = some r := e
    show isVa T q (trV R a) = _
    cases a with
    | ref i => show gd (mem T.ob q) (some false) = _; rw [← K.ob]; exact e
    | opq j => cases e
    | _ => exact e
  | _ => cases e
theorem hasV_sim (h : HR R σ0 s σ) {a b : V} {r : Bool} (e : hasV a b s = some r) : hasV (trV R a) (trV R b) σ = some r :=
  bsE e fun k hk e => bsE e fun i hi e => mpE e fun es hes e => by
    rw [hk, hi]
    show (dictAt σ (adT R i)).map (fun es => (lkI es k).isSome) = _
    rw [h.dict hes, ← e]
    show some (lkI (trD R es) k).isSome = some (lkI es k).isSome
    rw [lkI_tr, Option.isSome_map]
theorem str2_tr {xs : List V} {p : PySem.Str × PySem.Str} (e : str2 xs = some p) : trL R xs = xs := by
  rw [str2_ok e]; rfl
theorem cmpL_sim {op : CmpOp} {xs ys : List V} {r : Bool} (e : cmpL' op xs ys = some r) : cmpL' op (trL R xs) (trL R ys) = some r := by
  cases op with
  | Eq =>
    exact bdE e fun p hp e2 => bdE e2 fun q hq _ => by rw [str2_tr hp, str2_tr hq]; exact e
  | NotEq =>
    show gd (trL R ys).isEmpty (gd (Nat.ble (trL R xs).length 10000) (some (!(trL R xs).isEmpty))) = _
    rw [trL_len, show (trL R xs).isEmpty = xs.isEmpty from List.isEmpty_map, show (trL R ys).isEmpty = ys.isEmpty from List.isEmpty_map]
    exact e
  | _ => cases e
theorem cmpO_sim (K : TrOK T S R σ0) (h : HR R σ0 s σ) {op : CmpOp} {a b : V} {r : Bool} (e : cmpO S op a b s = some r) : cmpO T op (trV R a) (trV R b) σ = some r := by
  cases a with
  | int x =>
    cases b with
    | int y => exact e
    | opq j =>
      obtain ⟨x', y, e1, e2, e3⟩ := K.cmp op _ _ r e
      have e1 : V.int x = .int x' := e1
      rw [e2]
      cases e1
      exact e3
    | _ => cases e
  | str x => exact bsE e fun y hy e => by rw [hy]; exact e
  | ref i =>
    exact bsE e fun j hj e => bdE e fun xs h1 e => bdE e fun ys h2 e => by
      rw [hj]
      show (listAt σ (adT R i)).bind (fun xs => (listAt σ (adT R j)).bind fun ys => cmpL' op xs ys) = _
      rw [h.list h1, h.list h2]
      exact cmpL_sim e
  | opq j =>
    obtain ⟨x, y, e1, e2, e3⟩ := K.cmp op _ b r e
    rw [e1, e2]
    exact e3
  | _ => cases e
theorem cmpB_sim (K : TrOK T S R σ0) (h : HR R σ0 s σ) {op : CmpOp} {a b : V} {r : Bool} (e : cmpB S op a b s = some r) : cmpB T op (trV R a) (trV R b) σ = some r := by
  cases op with
  | Is => exact isV_sim K e
  | IsNot => exact mpE e fun t ht e => by show (isV T _ _).map _ = _; rw [isV_sim K ht, ← e]; rfl
  | In => exact hasV_sim h e
  | NotIn => exact mpE e fun t ht e => by show (hasV _ _ _).map _ = _; rw [hasV_sim h ht, ← e]; rfl
  | _ => exact cmpO_sim K h e
theorem cmpV_sim (K : TrOK T S R σ0) (h : HR R σ0 s σ) {op : CmpOp} {a b r : V} (e : cmpV S op a b s = some r) : cmpV T op (trV R a) (trV R b) σ = some (trV R r) :=
  mpE e fun t ht e => by unfold cmpV; rw [cmpB_sim K h ht, ← e]; rfl
theorem seqAt_sim {k : Int} {xs : List V} {r : V} (e : seqAt k xs = some r) : seqAt k (trL R xs) = some (trV R r) :=
  gdE e fun hk e => by
    unfold seqAt
    rw [hk]
    show at? (xs.map (trV R)) k.toNat = _
    rw [at_map, e]; rfl
theorem seqV_sim (K : TrOK T S R σ0) (h : HR R σ0 s σ) {v : V} {xs : List V} (e : seqV S v s = some xs) : seqV T (trV R v) σ = some (trL R xs) := by
  cases v with
  | ref i => exact h.list e
  | val a =>
    have e : lk S.tp a = some xs := e
    rw [K.tp] at e
    show lk T.tp a = _
    rw [e, csts_tr (K.tps _ _ e)]
  | _ => cases e
theorem tupOf_sim (K : TrOK T S R σ0) (h : HR R σ0 s σ) {v : V} {xs : List V} (e : tupOf S s v = some xs) : tupOf T σ (trV R v) = some (trL R xs) := by
  cases v with
  | ref i => exact h.tup e
  | val a => exact seqV_sim (v := .val a) K h e
  | _ => cases e
theorem subV_sim (K : TrOK T S R σ0) (h : HR R σ0 s σ) {a b r : V} (e : subV S a b s = some r) : subV T (trV R a) (trV R b) σ = some (trV R r) :=
  bsE e fun k hk e => by
    rw [hk]
    cases a with
    | val av =>
      exact bdE e fun xs hx e => by
        rw [K.tp] at hx
        show (lk T.tp av).bind (seqAt k) = _
        rw [hx]
        have z := seqAt_sim (R := R) e
        rw [csts_tr (K.tps _ _ hx)] at z
        exact z
    | ref i =>
      exact bdE e fun o ho e => by
        show (at? σ (adT R i)).bind (subO k) = _
        rw [h.obj i o ho]
        cases o with
        | list xs => exact seqAt_sim e
        | tup xs => exact seqAt_sim e
        | dict es => show lkI (trD R es) k = _; rw [lkI_tr, show lkI es k = some r from e]; rfl
        | _ => cases e
    | _ => cases e
theorem setS_sim (K : TrOK T S R σ0) (h : HR R σ0 s σ) {o i v : V} {s' : H} (e : setS S o i v s = some s') : Ok (HR R σ0 s') (setS T (trV R o) (trV R i) (trV R v) σ) :=
  bsE e fun n hn e => bsE e fun k hk e => gdE e fun hm e => bdE e fun x hx e => mpE e fun y hy e => by
    rw [hn, hk]
    show Ok (HR R σ0 _) (gd (T.mu (adT R n)) ((at? σ (adT R n)).bind fun x => (setSO k (trV R v) x).map fun y => setAt σ (adT R n) y))
    refine .gd (K.muT _) ?_
    rw [h.obj n x hx]
    have z : setSO k (trV R v) (trO R x) = some (trO R y) := by
      cases x with
      | list xs =>
        exact gdE hy fun hc e => by
          show gd (decide (0 ≤ k ∧ k < 4611686018427387904 ∧ k.toNat < (trL R xs).length)) (some (O.list (setAt (trL R xs) k.toNat (trV R v)))) = _
          rw [trL_len, show decide (0 ≤ k ∧ k < 4611686018427387904 ∧ k.toNat < xs.length) = true from hc, ← Option.some.inj e]
          show some (O.list (setAt (xs.map (trV R)) k.toNat (trV R v))) = _
          rw [set_map]
          rfl
      | dict es =>
        exact gdE hy fun hc e => by
          show gd (Nat.ble (trD R es).length 1000) (some (O.dict ((k, trV R v) :: trD R es))) = _
          rw [show (trD R es).length = es.length from List.length_map _, hc, ← Option.some.inj e]
          rfl
      | _ => cases hy
    show Ok (HR R σ0 _) ((setSO k (trV R v) (trO R x)).map fun y => setAt σ (adT R n) y)
    rw [z, ← e]
    exact .pure (h.set K hm y)
theorem fromV_sim (h : HR R σ0 s σ) {a b : V} {r : V × H} (e : fromV a b s = some r) : Ok (WV R σ0 r) (fromV (trV R a) (trV R b) σ) :=
  bsE e fun n hn e => gdE e fun hl e => bdE e fun xs hx e => gdE e fun hz e => by
    rw [hn, ← Option.some.inj e]
    show Ok (WV R σ0 _) (gd (isLit 1 (trV R b)) ((listAt σ (adT R n)).bind fun xs => gd (Nat.ble xs.length 10000) (some (.ref σ.length, σ ++ [.list (xs.drop 1)]))))
    refine .gd (lit_tr hl) ?_
    rw [h.list hx]
    refine .gd (by rw [trL_len]; exact hz) (.pure ⟨h.ref, ?_⟩)
    rw [show (trL R xs).drop 1 = trL R (xs.drop 1) from (List.map_drop).symm]
    exact h.new (.list (xs.drop 1))
theorem isiV_sim (K : TrOK T S R σ0) (h : HR R σ0 s σ) {v c : V} {r : Bool} (e : isiV S v c s = some r) : isiV T (trV R v) (trV R c) σ = some r := by
  cases c with
  | val C =>
    exact bsE e fun i hi e => bdE e fun o ho e => by
      rw [hi]
      show (at? σ (adT R i)).bind (isiO T C) = _
      rw [h.obj i o ho]
      cases o with
      | inst D fs =>
        show (lk T.cl D).bind (fun cx => bif mem cx.mro C then some true else gd (mem cx.non C) (some false)) = _
        rw [← K.cl]; exact e
      | _ => cases e
  | tyBool =>
    cases v with
    | ref i =>
      exact bdE e fun o ho e => by
        show (at? σ (adT R i)).bind (isbO T) = _
        rw [h.obj i o ho]
        cases o with
        | inst D fs => show (lk T.cl D).map (fun _ => false) = _; rw [← K.cl]; exact e
        | _ => cases e
    | bool b => exact e
    | int b => exact e
    | _ => cases e
  | _ => cases e
theorem popV_sim (K : TrOK T S R σ0) (h : HR R σ0 s σ) {f : List V → Option (V × List V)} (hf : ∀ xs p, f xs = some p → f (trL R xs) = some (trV R p.1, trL R p.2)) {a : V} {r : V × H} (e : popV S f a s = some r) : Ok (WV R σ0 r) (popV T f (trV R a) σ) :=
  bsE e fun i hi e => gdE e fun hm e => bdE e fun xs hx e => mpE e fun p hp e => by
    rw [hi, ← e]
    show Ok (WV R σ0 _) (gd (T.mu (adT R i)) ((listAt σ (adT R i)).bind fun xs => (f xs).map fun p => (p.1, setAt σ (adT R i) (.list p.2))))
    refine .gd (K.muT _) ?_
    rw [h.list hx]
    show Ok (WV R σ0 _) ((f (trL R xs)).map fun p => (p.1, setAt σ (adT R i) (.list p.2)))
    rw [hf _ _ hp]
    exact .pure ⟨rfl, h.set K hm (.list p.2)⟩
theorem popE_sim (xs : List V) (p : V × List V) (e : popE xs = some p) : popE (trL R xs) = some (trV R p.1, trL R p.2) :=
  gdE e fun hz e => mpE e fun v hv e => by
    unfold popE
    rw [trL_len, hz, ← e]
    show ((xs.map (trV R)).getLast?).map (fun v => (v, (xs.map (trV R)).dropLast)) = _
    rw [List.getLast?_map, hv, ← List.map_dropLast]; rfl
theorem pop0_sim (xs : List V) (p : V × List V) (e : pop0 xs = some p) : pop0 (trL R xs) = some (trV R p.1, trL R p.2) := by
  cases xs with
  | nil => cases e
  | cons x xs =>
    exact gdE e fun hz e => by
      show gd (Nat.ble (trL R xs).length 9999) (some (trV R x, trL R xs)) = _
      rw [trL_len, hz, ← Option.some.inj e]; rfl
theorem repV_sim (h : HR R σ0 s σ) {v : V} {r : PySem.Str} (e : repV v s = some r) : repV (trV R v) σ = some r := by
  cases v with
  | bool b => exact e
  | int i => exact e
  | ref i =>
    exact bdE e fun xs hx e => bsE e fun u hu e => by
      show (listAt σ (adT R i)).bind (fun xs => (arg1 xs).bind fun u => rep1 u.1) = _
      rw [h.list hx, hu]
      show rep1 (trV R u) = _
      cases u with
      | bool b => exact e
      | int i => exact e
      | _ => cases e
  | _ => cases e
theorem biV_sim (K : TrOK T S R σ0) (h : HR R σ0 s σ) {b : Bi} {as : List V} {r : V × H} (e : biV S b as s = some r) : Ok (WV R σ0 r) (biV T b (trL R as) σ) := by
  cases b with
  | len =>
    exact bsE e fun v hv e => bdE e fun xs hx e => gdE e fun hz e => by
      rw [hv, ← Option.some.inj e]
      show Ok (WV R σ0 _) ((seqV T (trV R v) σ).bind fun xs => gd (Nat.ble xs.length 10000) (some (.int xs.length, σ)))
      rw [seqV_sim K h hx]
      refine .gd (by rw [trL_len]; exact hz) (.pure ⟨by rw [trL_len]; rfl, h⟩)
  | isinst =>
    exact bsE e fun p hp e => mpE e fun t ht e => by
      rw [hp, ← e]
      show Ok (WV R σ0 _) ((isiV T (trV R p.1) (trV R p.2) σ).map fun t => (.bool t, σ))
      rw [isiV_sim K h ht]
      exact .pure ⟨rfl, h⟩
  | append =>
    exact bsE e fun p hp e => bsE e fun i hi e => gdE e fun hm e => bdE e fun xs hx e => gdE e fun hz e => by
      rw [hp, show p.1 = _ from hi, ← Option.some.inj e]
      show Ok (WV R σ0 _) (gd (T.mu (adT R i)) ((listAt σ (adT R i)).bind fun xs => gd (Nat.ble xs.length 10000) (some (.none, setAt σ (adT R i) (.list (xs ++ [trV R p.2]))))))
      refine .gd (K.muT _) ?_
      rw [h.list hx]
      refine .gd (by rw [trL_len]; exact hz) (.pure ⟨rfl, ?_⟩)
      rw [show trL R xs ++ [trV R p.2] = trL R (xs ++ [p.2]) from (List.map_append (l₁ := xs) (l₂ := [p.2])).symm]
      exact h.set K hm (.list (xs ++ [p.2]))
  | pop =>
    cases as with
    | nil => cases e
    | cons a as =>
      cases as with
      | nil => exact popV_sim K h popE_sim e
      | cons z as =>
        cases as with
        | nil => exact gdE e fun hl e => .gd (lit_tr hl) (popV_sim K h pop0_sim e)
        | cons _ _ => cases e
  | absB =>
    exact bsE e fun v hv e => msE e fun i hi e => by
      rw [hv, show v = _ from hi, ← e]
      exact .pure ⟨rfl, h⟩
  | reprB =>
    exact bsE e fun v hv e => mpE e fun t ht e => by
      rw [hv, ← e]
      show Ok (WV R σ0 _) ((repV (trV R v) σ).map fun t => (.str t, σ))
      rw [repV_sim h ht]
      exact .pure ⟨rfl, h⟩
  | sortedB =>
    exact bsE e fun v hv e => bsE e fun i hi e => bdE e fun o ho e => gdE e fun he e => by
      rw [hv, show v = _ from hi, ← Option.some.inj e]
      show Ok (WV R σ0 _) ((at? σ (adT R i)).bind fun o => gd (isE o) (some (.ref σ.length, σ ++ [.list []])))
      rw [h.obj i o ho, isE_ok he]
      exact .pure ⟨h.ref, h.new (.list [])⟩
end sim
noncomputable def CfS (R : Tr) (σ0 : H) (cfS cf : CF) : Prop := ∀ f as s r, cfS f as s = some r → ∀ σ, HR R σ0 s σ → Ok (WV R σ0 r) (cf (trV R f) (trL R as) σ)
noncomputable def LocS (R : Tr) (l m : Loc) : Prop := ∀ i v, lk l i = some v → lk m i = some (trV R v)
theorem LocS.tr (R : Tr) (l : Loc) : LocS R l (trF R l) := fun i v h => by rw [lk_tr, h]; rfl
theorem LocS.cons {R : Tr} {l m : Loc} (h : LocS R l m) (i : Nat) (v : V) : LocS R ((i, v) :: l) ((i, trV R v) :: m) := fun j w e => by
  show (bif Nat.beq i j then some (trV R v) else lk m j) = _
  exact cdE e (fun h1 e => by rw [h1, Option.some.inj e]; rfl) fun h1 e => by rw [h1]; exact h j w e
theorem LocS.put {R : Tr} {is : List Nat} : ∀ {l m : Loc} {vs : List V} {l' : Loc}, LocS R l m → putAll l is vs = some l' → ∃ m', putAll m is (trL R vs) = some m' ∧ LocS R l' m' := by
  induction is with
  | nil => intro l m vs l' h e; cases vs with
    | nil => cases e; exact ⟨m, rfl, h⟩
    | cons _ _ => cases e
  | cons i is ih => intro l m vs l' h e; cases vs with
    | nil => cases e
    | cons v vs => exact ih (h.cons i v) e
theorem LocS.tgt {R : Tr} {σ0 s σ : H} (h : HR R σ0 s σ) {l m l' : Loc} {is : List Nat} {v : V} (hl : LocS R l m) (e : tgtPut s l is v = some l') : ∃ m', tgtPut σ m is (trV R v) = some m' ∧ LocS R l' m' := by
  have many : ((refV v).bind fun q => (tupAt s q.1).bind fun ys => putAll l is ys) = some l' → ∃ m', ((refV (trV R v)).bind fun q => (tupAt σ q.1).bind fun ys => putAll m is ys) = some m' ∧ LocS R l' m' := fun e => bsE e fun q hq e => bdE e fun ys hy e => by
    rw [hq]
    show ∃ m', (tupAt σ (adT R q)).bind (fun ys => putAll m is ys) = some m' ∧ _
    rw [h.tup hy]
    exact hl.put e
  cases is with
  | nil => exact many e
  | cons i is =>
    cases is with
    | nil => cases e; exact ⟨_, rfl, hl.cons i v⟩
    | cons _ _ => exact many e
noncomputable def WF (R : Tr) (σ0 : H) (r z : Fl × Loc × H) : Prop := z.1 = trK R r.1 ∧ LocS R r.2.1 z.2.1 ∧ HR R σ0 r.2.2 z.2.2
noncomputable def EvS (R : Tr) (σ0 : H) (f g : Loc → ME → H → Option (V × H)) : Prop := ∀ l e s r, f l e s = some r → ∀ σ m, HR R σ0 s σ → LocS R l m → Ok (WV R σ0 r) (g m e σ)
noncomputable def TsS (R : Tr) (σ0 : H) (f g : Loc → ME → H → Option (Bool × H)) : Prop := ∀ l e s r, f l e s = some r → ∀ σ m, HR R σ0 s σ → LocS R l m → Ok (WB R σ0 r) (g m e σ)
section sim
variable {T S : Tab} {R : Tr} {σ0 : H} {ap po : Nat} {cfS cf : CF}
theorem evL_sim {f g : Loc → ME → H → Option (V × H)} (E : EvS R σ0 f g) {l m : Loc} (hl : LocS R l m) {es : List ME} : ∀ {s r}, evL (f l) es s = some r → ∀ {σ}, HR R σ0 s σ → Ok (WL R σ0 r) (evL (g m) es σ) := by
  induction es with
  | nil => intro s r e σ h; rw [← Option.some.inj e]; exact .pure ⟨rfl, h⟩
  | cons x es ih =>
    intro s r e σ h
    exact bdE e fun p hp e => mpE e fun q hq e => (E _ _ _ _ hp _ _ h hl).bind fun z hz => (ih hq hz.2).map fun y hy => by
      rw [← e]
      exact ⟨by show z.1 :: y.1 = _; rw [hz.1, hy.1]; rfl, hy.2⟩
theorem bool_tr {v : V} {t : Bool} (e : v = .bool t) {z : V} (h : z = trV R v) : z = .bool t := by rw [h, e]; rfl
section ev
variable {r q : EvR} (K : TrOK T S R σ0) (CS : CfS R σ0 cfS cf) (E : EvS R σ0 r.1 q.1) (B : TsS R σ0 r.2 q.2)
include K CS E B
theorem evE_sim : EvS R σ0 (evE1 ⟨S, ap, po⟩ cfS r) (evE1 ⟨T, ap, po⟩ cf q) := by
  intro l e s y he σ m h hl
  cases e with
  | nm i =>
    exact mpE he fun v hv he => by
      show Ok _ ((lk m i).map fun v => (v, σ))
      rw [hl _ _ hv, ← he]
      exact .pure ⟨rfl, h⟩
  | cst v =>
    exact gdE he fun hc he => by
      rw [← Option.some.inj he]
      exact .gd hc (.pure ⟨(cst_tr hc).symm, h⟩)
  | attr o a =>
    exact bdE he fun p hp he => mpE he fun u hu he => (E _ _ _ _ hp _ _ h hl).bind fun z hz => by
      rw [hz.1, getA_sim K hz.2 hu, ← he]
      exact .pure ⟨rfl, hz.2⟩
  | call f es => exact bdE he fun p hp he => bdE he fun w hw he => (E _ _ _ _ hp _ _ h hl).bind fun z hz => (evL_sim E hl hw hz.2).bind fun z2 hz2 => by rw [hz.1, hz2.1]; exact CS _ _ _ _ he _ hz2.2
  | meth o a es =>
    exact bdE he fun p hp he => bdE he fun f hf he => bdE he fun w hw he => (E _ _ _ _ hp _ _ h hl).bind fun z hz => by
      rw [hz.1]
      show Ok _ ((getM T (trV R p.1) a z.2 ap po).bind _)
      rw [getM_sim K hz.2 hf]
      exact (evL_sim E hl hw hz.2).bind fun z2 hz2 => by
        rw [hz2.1]
        show Ok _ (cf (trV R f.1) (trL R f.2 ++ trL R w.1) z2.2)
        rw [show trL R f.2 ++ trL R w.1 = trL R (f.2 ++ w.1) from (List.map_append (l₁ := f.2) (l₂ := w.1)).symm]
        exact CS _ _ _ _ he _ hz2.2
  | bin op a b => exact bdE he fun p hp he => bdE he fun w hw he => (E _ _ _ _ hp _ _ h hl).bind fun z hz => (E _ _ _ _ hw _ _ hz.2 hl).bind fun z2 hz2 => by rw [hz.1, hz2.1]; exact binV_sim K hz2.2 he
  | cmp op a b =>
    exact bdE he fun p hp he => bdE he fun w hw he => mpE he fun t ht he => (E _ _ _ _ hp _ _ h hl).bind fun z hz => (E _ _ _ _ hw _ _ hz.2 hl).bind fun z2 hz2 => by
      rw [hz.1, hz2.1, cmpV_sim K hz2.2 ht, ← he]
      exact .pure ⟨rfl, hz2.2⟩
  | and a b =>
    exact bdE he fun p hp he => bsE he fun t ht he => (E _ _ _ _ hp _ _ h hl).bind fun z hz => by
      rw [bool_tr ht hz.1]
      refine cdE he (fun hc he => ?_) fun hc he => ?_
      · subst hc; exact E _ _ _ _ he _ _ hz.2 hl
      · subst hc; rw [← Option.some.inj he]; exact .pure hz
  | or a b =>
    exact bdE he fun p hp he => bsE he fun t ht he => (E _ _ _ _ hp _ _ h hl).bind fun z hz => by
      rw [bool_tr ht hz.1]
      refine cdE he (fun hc he => ?_) fun hc he => ?_
      · subst hc; rw [← Option.some.inj he]; exact .pure hz
      · subst hc; exact E _ _ _ _ he _ _ hz.2 hl
  | not a =>
    exact bdE he fun p hp he => msE he fun t ht he => (E _ _ _ _ hp _ _ h hl).bind fun z hz => by
      rw [bool_tr ht hz.1, ← he]
      exact .pure ⟨rfl, hz.2⟩
  | neg a =>
    exact bdE he fun p hp he => msE he fun t ht he => (E _ _ _ _ hp _ _ h hl).bind fun z hz => by
      rw [hz.1, show p.1 = _ from ht, ← he]
      exact .pure ⟨rfl, hz.2⟩
  | ite t a b =>
    exact bdE he fun p hp he => (B _ _ _ _ hp _ _ h hl).bind fun z hz => by
      rw [hz.1]
      exact E _ _ _ _ he _ _ hz.2 hl
  | list es =>
    exact bdE he fun p hp he => gdE he fun hz he => (evL_sim E hl hp h).bind fun z hw => by
      rw [hw.1, ← Option.some.inj he]
      exact .gd (by rw [trL_len]; exact hz) (.pure ⟨hw.2.ref, hw.2.new (.list p.1)⟩)
  | tup es =>
    exact bdE he fun p hp he => gdE he fun hz he => (evL_sim E hl hp h).bind fun z hw => by
      rw [hw.1, ← Option.some.inj he]
      exact .gd (by rw [trL_len]; exact hz) (.pure ⟨hw.2.ref, hw.2.new (.tup p.1)⟩)
  | dict0 => rw [← Option.some.inj he]; exact .pure ⟨h.ref, h.new (.dict [])⟩
  | sub o i =>
    exact bdE he fun p hp he => bdE he fun w hw he => mpE he fun t ht he => (E _ _ _ _ hp _ _ h hl).bind fun z hz => (E _ _ _ _ hw _ _ hz.2 hl).bind fun z2 hz2 => by
      rw [hz.1, hz2.1, subV_sim K hz2.2 ht, ← he]
      exact .pure ⟨rfl, hz2.2⟩
  | «from» o i => exact bdE he fun p hp he => bdE he fun w hw he => (E _ _ _ _ hp _ _ h hl).bind fun z hz => (E _ _ _ _ hw _ _ hz.2 hl).bind fun z2 hz2 => by rw [hz.1, hz2.1]; exact fromV_sim hz2.2 he
  | _ => cases he
theorem evT_sim : TsS R σ0 (evT1 ⟨S, ap, po⟩ cfS r) (evT1 ⟨T, ap, po⟩ cf q) := by
  intro l e s y he σ m h hl
  have plain : ∀ {e y}, (r.1 l e s).bind tr1 = some y → Ok (WB R σ0 y) ((q.1 m e σ).bind tr1) := fun he => bdE he fun p hp he => msE he fun t ht he => (E _ _ _ _ hp _ _ h hl).bind fun z hz => by
    show Ok _ ((truth z.1).map fun t => (t.1, z.2))
    rw [bool_tr ht hz.1, ← he]
    exact .pure ⟨rfl, hz.2⟩
  cases e with
  | and a b =>
    exact bdE he fun p hp he => (B _ _ _ _ hp _ _ h hl).bind fun z hz => by
      rw [hz.1]
      refine cdE he (fun hc he => ?_) fun hc he => ?_
      · rw [hc]; exact B _ _ _ _ he _ _ hz.2 hl
      · rw [hc, ← Option.some.inj he]; exact .pure hz
  | or a b =>
    exact bdE he fun p hp he => (B _ _ _ _ hp _ _ h hl).bind fun z hz => by
      rw [hz.1]
      refine cdE he (fun hc he => ?_) fun hc he => ?_
      · rw [hc, ← Option.some.inj he]; exact .pure hz
      · rw [hc]; exact B _ _ _ _ he _ _ hz.2 hl
  | not a => exact mpE he fun p hp he => (B _ _ _ _ hp _ _ h hl).map fun z hz => by rw [← he]; exact ⟨congrArg Bool.not hz.1, hz.2⟩
  | cmp op a b =>
    exact bdE he fun p hp he => bdE he fun w hw he => mpE he fun t ht he => (E _ _ _ _ hp _ _ h hl).bind fun z hz => (E _ _ _ _ hw _ _ hz.2 hl).bind fun z2 hz2 => by
      rw [hz.1, hz2.1, cmpB_sim K hz2.2 ht, ← he]
      exact .pure ⟨rfl, hz2.2⟩
  | chain o1 o2 a b d =>
    exact bdE he fun p hp he => bdE he fun w hw he => bdE he fun t ht he => (E _ _ _ _ hp _ _ h hl).bind fun z hz => (E _ _ _ _ hw _ _ hz.2 hl).bind fun z2 hz2 => by
      rw [hz.1, hz2.1, cmpB_sim K hz2.2 ht]
      refine cdE he (fun hc he => ?_) fun hc he => ?_
      · subst hc
        exact bdE he fun x hx he => mpE he fun u hu he => (E _ _ _ _ hx _ _ hz2.2 hl).bind fun z3 hz3 => by
          rw [hz3.1, cmpB_sim K hz3.2 hu, ← he]
          exact .pure ⟨rfl, hz3.2⟩
      · subst hc; rw [← Option.some.inj he]; exact .pure ⟨rfl, hz2.2⟩
  | ite _ _ _ => cases he
  | _ => exact plain he
end ev
theorem ev_sim (K : TrOK T S R σ0) (CS : CfS R σ0 cfS cf) (n : Nat) : EvS R σ0 (ev ⟨S, ap, po⟩ cfS n).1 (ev ⟨T, ap, po⟩ cf n).1 ∧ TsS R σ0 (ev ⟨S, ap, po⟩ cfS n).2 (ev ⟨T, ap, po⟩ cf n).2 := by
  induction n with
  | zero => exact ⟨fun _ _ _ _ e => (by cases e), fun _ _ _ _ e => (by cases e)⟩
  | succ n ih => exact ⟨evE_sim K CS ih.1 ih.2, evT_sim K CS ih.1 ih.2⟩
theorem seq_sim {k k' : Loc → H → R3} {x x' : R3} {y p : Fl × Loc × H} (hx : x = some p) (hx' : Ok (WF R σ0 p) x') (e : seqR k x = some y) (hk : ∀ l s σ m, k l s = some y → HR R σ0 s σ → LocS R l m → Ok (WF R σ0 y) (k' m σ)) : Ok (WF R σ0 y) (seqR k' x') := by
  subst hx
  refine hx'.bind fun z hz => ?_
  obtain ⟨z1, z2, z3⟩ := z
  obtain ⟨p1, p2, p3⟩ := p
  obtain ⟨h1, h2, h3⟩ := hz
  have h1 : z1 = trK R p1 := h1
  subst h1
  cases p1 with
  | next => exact hk _ _ _ _ e h3 h2
  | _ => rw [← Option.some.inj e]; exact .pure ⟨rfl, h2, h3⟩
theorem loop_sim {k k' : Loc → H → R3} {x x' : R3} {y p : Fl × Loc × H} (hx : x = some p) (hx' : Ok (WF R σ0 p) x') (e : loopR k x = some y) (hk : ∀ l s σ m, k l s = some y → HR R σ0 s σ → LocS R l m → Ok (WF R σ0 y) (k' m σ)) : Ok (WF R σ0 y) (loopR k' x') := by
  subst hx
  refine hx'.bind fun z hz => ?_
  obtain ⟨z1, z2, z3⟩ := z
  obtain ⟨p1, p2, p3⟩ := p
  obtain ⟨h1, h2, h3⟩ := hz
  have h1 : z1 = trK R p1 := h1
  subst h1
  cases p1 with
  | next => exact hk _ _ _ _ e h3 h2
  | cont => exact hk _ _ _ _ e h3 h2
  | _ => rw [← Option.some.inj e]; exact .pure ⟨rfl, h2, h3⟩
structure ExS (R : Tr) (σ0 : H) (f g : ExR) : Prop where
  sS : ∀ l x s r, f.S l x s = some r → ∀ σ m, HR R σ0 s σ → LocS R l m → Ok (WF R σ0 r) (g.S m x σ)
  sB : ∀ l x s r, f.B l x s = some r → ∀ σ m, HR R σ0 s σ → LocS R l m → Ok (WF R σ0 r) (g.B m x σ)
  sR : ∀ l i k n b s r, f.R l i k n b s = some r → ∀ σ m, HR R σ0 s σ → LocS R l m → Ok (WF R σ0 r) (g.R m i k n b σ)
  sI : ∀ l is j k b s r, f.I l is j k b s = some r → ∀ σ m, HR R σ0 s σ → LocS R l m → Ok (WF R σ0 r) (g.I m is (adT R j) k b σ)
section ex
variable {r q : EvR} {u v : ExR} (K : TrOK T S R σ0) (E : EvS R σ0 r.1 q.1) (B : TsS R σ0 r.2 q.2) (X : ExS R σ0 u v)
include K E B X
theorem exS_sim : ∀ l x s y, exS1 ⟨S, ap, po⟩ r u l x s = some y → ∀ σ m, HR R σ0 s σ → LocS R l m → Ok (WF R σ0 y) (exS1 ⟨T, ap, po⟩ q v m x σ) := by
  intro l x s y he σ m h hl
  cases x with
  | asgN i e => exact mpE he fun p hp he => (E _ _ _ _ hp _ _ h hl).map fun z hz => by rw [← he, hz.1]; exact ⟨rfl, hl.cons i p.1, hz.2⟩
  | asgA o a e =>
    exact bdE he fun p hp he => bdE he fun w hw he => mpE he fun s3 h3 he => (E _ _ _ _ hp _ _ h hl).bind fun z hz => (E _ _ _ _ hw _ _ hz.2 hl).bind fun z2 hz2 => by
      rw [hz.1, hz2.1, ← he]
      exact (setA_sim K hz2.2 h3).map fun σ3 hσ => ⟨rfl, hl, hσ⟩
  | asgS o i e =>
    exact bdE he fun p hp he => bdE he fun w hw he => bdE he fun x hx he => mpE he fun s3 h3 he => (E _ _ _ _ hp _ _ h hl).bind fun z hz => (E _ _ _ _ hw _ _ hz.2 hl).bind fun z2 hz2 => (E _ _ _ _ hx _ _ hz2.2 hl).bind fun z3 hz3 => by
      rw [hz.1, hz2.1, hz3.1, ← he]
      exact (setS_sim K hz3.2 h3).map fun σ3 hσ => ⟨rfl, hl, hσ⟩
  | asgT rev is e =>
    exact bdE he fun p hp he => bdE he fun xs hx he => mpE he fun l1 h1 he => (E _ _ _ _ hp _ _ h hl).bind fun z hz => by
      show Ok _ ((tupOf T z.2 z.1).bind _)
      rw [hz.1, tupOf_sim K hz.2 hx, ← he]
      show Ok _ ((bif rev then putAll m is.reverse (trL R xs).reverse else putAll m is (trL R xs)).map fun l1 => (Fl.next, l1, z.2))
      have z1 : ∃ m', (bif rev then putAll m is.reverse (trL R xs).reverse else putAll m is (trL R xs)) = some m' ∧ LocS R l1 m' := by
        revert h1
        cases rev with
        | true => exact fun h1 => by rw [show (trL R xs).reverse = trL R xs.reverse from List.map_reverse.symm]; exact hl.put h1
        | false => exact fun h1 => hl.put h1
      obtain ⟨m', e1, e2⟩ := z1
      rw [e1]
      exact .pure ⟨rfl, e2, hz.2⟩
  | augA o a op e =>
    exact bdE he fun p hp he => bdE he fun x hx he => bdE he fun w hw he => bdE he fun t ht he => mpE he fun s3 h3 he => (E _ _ _ _ hp _ _ h hl).bind fun z hz => by
      rw [hz.1, getA_sim K hz.2 hx]
      exact (E _ _ _ _ hw _ _ hz.2 hl).bind fun z2 hz2 => by
        rw [hz2.1, augV_sim K ht, ← he]
        exact (setA_sim K hz2.2 h3).map fun σ3 hσ => ⟨rfl, hl, hσ⟩
  | ifS t a b => exact bdE he fun p hp he => (B _ _ _ _ hp _ _ h hl).bind fun z hz => by rw [hz.1]; exact X.sB _ _ _ _ he _ _ hz.2 hl
  | whileS t b =>
    exact bdE he fun p hp he => (B _ _ _ _ hp _ _ h hl).bind fun z hz => by
      rw [hz.1]
      refine cdE he (fun hc he => ?_) fun hc he => ?_
      · rw [hc]
        exact bdE he fun w hw _ => loop_sim (k' := fun l1 σ1 => v.S l1 (.whileS t b) σ1) hw (X.sB _ _ _ _ hw _ _ hz.2 hl) he fun l s σ m e hr hl => X.sS _ _ _ _ e _ _ hr hl
      · rw [hc, ← Option.some.inj he]; exact .pure ⟨rfl, hl, hz.2⟩
  | forR i es b =>
    exact bdE he fun p hp he => bsE he fun w hw he => bsE he fun n hm he => gdE he fun hc he => (evL_sim E hl hp h).bind fun z hz => by
      rw [hz.1, show p.1 = _ from hw, show w = _ from hm]
      exact .gd hc (X.sR _ _ _ _ _ _ _ he _ _ hz.2 hl)
  | forL is e b =>
    exact bdE he fun p hp he => bsE he fun j hj he => bdE he fun xs hx he => (E _ _ _ _ hp _ _ h hl).bind fun z hz => by
      rw [hz.1, show p.1 = _ from hj]
      show Ok _ ((listAt z.2 (adT R j)).bind fun _ => v.I m is (adT R j) 0 b z.2)
      rw [hz.2.list hx]
      exact X.sI _ _ _ _ _ _ _ he _ _ hz.2 hl
  | ret e => exact mpE he fun p hp he => (E _ _ _ _ hp _ _ h hl).map fun z hz => by rw [← he, hz.1]; exact ⟨rfl, hl, hz.2⟩
  | expr e =>
    exact bdE he fun p hp he => gdE he fun hd he => (E _ _ _ _ hp _ _ h hl).bind fun z hz => by
      rw [hz.1, ← Option.some.inj he]
      refine .gd ?_ (.pure ⟨rfl, hl, hz.2⟩)
      revert hd
      cases p.1 <;> first | exact fun _ => rfl | exact fun h => by cases h
  | stop => cases he
end ex
theorem ex_sim (K : TrOK T S R σ0) (CS : CfS R σ0 cfS cf) (n : Nat) : ExS R σ0 (ex ⟨S, ap, po⟩ cfS n) (ex ⟨T, ap, po⟩ cf n) := by
  induction n with
  | zero => exact ⟨fun _ _ _ _ e => (by cases e), fun _ _ _ _ e => (by cases e), fun _ _ _ _ _ _ _ e => (by cases e), fun _ _ _ _ _ _ _ e => (by cases e)⟩
  | succ n ih =>
    obtain ⟨E, B⟩ := ev_sim (ap := ap) (po := po) K CS n
    refine ⟨exS_sim K E B ih, fun l x s r e σ m h hl => ?_, fun l i k n' b s r e σ m h hl => ?_, fun l is j k b s r e σ m h hl => ?_⟩
    · cases x with
      | nil => rw [← Option.some.inj e]; exact .pure ⟨rfl, hl, h⟩
      | cons x xs => exact bdE e fun w hw _ => seq_sim (k := fun l1 σ1 => (ex ⟨S, ap, po⟩ cfS n).B l1 xs σ1) (k' := fun l1 σ1 => (ex ⟨T, ap, po⟩ cf n).B l1 xs σ1) hw (ih.sS _ _ _ _ hw _ _ h hl) e fun l s σ m e hr hl => ih.sB _ _ _ _ e _ _ hr hl
    · cases n' with
      | zero => rw [← Option.some.inj e]; exact .pure ⟨rfl, hl, h⟩
      | succ n' => exact bdE e fun w hw _ => loop_sim (k := fun l1 σ1 => (ex ⟨S, ap, po⟩ cfS n).R l1 i (k + 1) n' b σ1) (k' := fun l1 σ1 => (ex ⟨T, ap, po⟩ cf n).R l1 i (k + 1) n' b σ1) hw (ih.sB _ _ _ _ hw _ _ h (hl.cons i (.int k))) e fun l s σ m e hr hl => ih.sR _ _ _ _ _ _ _ e _ _ hr hl
    · refine bdE e fun xs hx e => ?_
      show Ok _ ((listAt σ (adT R j)).bind _)
      rw [h.list hx]
      have hz : at? (trL R xs) k = (at? xs k).map (trV R) := at_map _ _ _
      revert e
      cases hk : at? xs k with
      | some w =>
        rw [hk] at hz
        exact fun e => bdE e fun l0 hl0 e => by
          show Ok _ (match at? (trL R xs) k with | some v => _ | none => _)
          rw [hz]
          show Ok _ ((tgtPut σ m is (trV R w)).bind _)
          obtain ⟨m', e1, e2⟩ := hl.tgt h hl0
          rw [e1]
          exact bdE e fun w hw _ => loop_sim (k := fun l1 σ1 => (ex ⟨S, ap, po⟩ cfS n).I l1 is j (k + 1) b σ1) (k' := fun l1 σ1 => (ex ⟨T, ap, po⟩ cf n).I l1 is (adT R j) (k + 1) b σ1) hw (ih.sB _ _ _ _ hw _ _ h e2) e fun l s σ m e hr hl => ih.sI _ _ _ _ _ _ _ e _ _ hr hl
      | none =>
        rw [hk] at hz
        exact fun e => gdE e fun hc e => by
          show Ok _ (match at? (trL R xs) k with | some v => _ | none => _)
          rw [hz, ← Option.some.inj e]
          exact .gd (by rw [trL_len]; exact hc) (.pure ⟨rfl, hl, h⟩)
end sim
noncomputable def orO (x y : Option (V × H)) : Option (V × H) := match x with
  | some r => some r
  | none => y
noncomputable def callO (ov : CF) (c : Cfg) : Nat → CF
  | 0 => fun _ _ _ => none
  | d + 1 => fun f as σ => orO (ov f as σ) (callS c (callO ov c d) f as σ)
section sim
variable {T S : Tab} {R : Tr} {σ0 : H} {ap po : Nat} {cfS cf : CF}
theorem runF_sim (K : TrOK T S R σ0) (CS : CfS R σ0 cfS cf) {fx : FX} {as : List V} {s : H} {r : V × H} (e : runF ⟨S, ap, po⟩ cfS fx as s = some r) {σ : H} (h : HR R σ0 s σ) : Ok (WV R σ0 r) (runF ⟨T, ap, po⟩ cf fx (trL R as) σ) :=
  gdE e fun hl e => bdE e fun p hp e => by
    refine .gd (by rw [trL_len]; exact hl) ?_
    show Ok (WV R σ0 r) ((exB ⟨T, ap, po⟩ cf FU (fx.params.zip (trL R as)).reverse fx.body σ).bind _)
    rw [zip_tr, show (trF R (fx.params.zip as)).reverse = trF R (fx.params.zip as).reverse from List.map_reverse.symm]
    refine ((ex_sim (ap := ap) (po := po) K CS FU).sB _ _ _ _ hp _ _ h (LocS.tr R _)).bind fun z hz => ?_
    obtain ⟨z1, z2, z3⟩ := z
    obtain ⟨h1, h2, h3⟩ := hz
    have h1 : z1 = trK R p.1 := h1
    subst h1
    revert e
    cases p.1 <;> first | exact fun e => by (rw [← Option.some.inj e]; exact .pure ⟨rfl, h3⟩) | exact fun e => by cases e
theorem callS_sim (K : TrOK T S R σ0) (CS : CfS R σ0 cfS cf) : CfS R σ0 (callS ⟨S, ap, po⟩ cfS) (callS ⟨T, ap, po⟩ cf) := by
  intro f as s r e σ h
  cases f with
  | val a =>
    show Ok (WV R σ0 r) (match lk T.fn a with | some fx => runF ⟨T, ap, po⟩ cf fx (trL R as) σ | none => (lk T.cl a).bind fun cx => newV ⟨T, ap, po⟩ cf a cx.init (trL R as) σ)
    have e : (match lk S.fn a with | some fx => runF ⟨S, ap, po⟩ cfS fx as s | none => (lk S.cl a).bind fun cx => newV ⟨S, ap, po⟩ cfS a cx.init as s) = some r := e
    rw [K.fn, K.cl] at e
    revert e
    cases lk T.fn a with
    | some fx => exact fun e => runF_sim K CS e h
    | none =>
      exact fun e => bdE e fun cx hcx e => by
        rw [hcx]
        show Ok (WV R σ0 r) (newV ⟨T, ap, po⟩ cf a cx.init (trL R as) σ)
        revert e
        cases cx.init with
        | some g =>
          exact fun e => bdE e fun fx hfx e => bdE e fun p hp e => by
            rw [show lk S.fn g = lk T.fn g from by rw [K.fn]] at hfx
            show Ok (WV R σ0 r) ((lk T.fn g).bind fun fx => initR (.ref σ.length) (runF ⟨T, ap, po⟩ cf fx (.ref σ.length :: trL R as) (σ ++ [.inst a []])))
            rw [hfx]
            show Ok (WV R σ0 r) ((runF ⟨T, ap, po⟩ cf fx (.ref σ.length :: trL R as) (σ ++ [.inst a []])).bind _)
            rw [h.ref]
            refine (runF_sim K CS hp (h.new (.inst a []))).bind fun z hz => ?_
            rw [hz.1]
            revert e
            cases p.1 <;> first | exact fun e => by (rw [← Option.some.inj e]; exact .pure ⟨rfl, hz.2⟩) | exact fun e => by cases e
        | none =>
          exact fun e => gdE e fun he e => by
            rw [← Option.some.inj e, List.isEmpty_iff.mp he]
            exact .pure ⟨h.ref, h.new (.inst a [])⟩
  | bi b => exact biV_sim K h e
  | tyList =>
    exact bsE e fun v hv e => bsE e fun i hi e => bdE e fun xs hx e => gdE e fun hz e => by
      rw [hv, show v = _ from hi, ← Option.some.inj e]
      show Ok (WV R σ0 _) ((listAt σ (adT R i)).bind fun xs => gd (Nat.ble xs.length 1000) (some (.ref σ.length, σ ++ [.list xs])))
      rw [h.list hx]
      exact .gd (by rw [trL_len]; exact hz) (.pure ⟨h.ref, h.new (.list xs)⟩)
  | _ => cases e
theorem callO_sim (K : TrOK T S R σ0) {ov : CF} {e : Nat} (OV : ∀ d, CfS R σ0 ov (callN ⟨T, ap, po⟩ (d + e + 1))) (d : Nat) : CfS R σ0 (callO ov ⟨S, ap, po⟩ d) (callN ⟨T, ap, po⟩ (d + e)) := by
  induction d with
  | zero => intro f as s r h; cases h
  | succ d ih =>
    intro f as s r h σ hr
    rw [show d + 1 + e = d + e + 1 from Nat.add_right_comm d 1 e]
    have h : orO (ov f as s) (callS ⟨S, ap, po⟩ (callO ov ⟨S, ap, po⟩ d) f as s) = some r := h
    revert h
    cases hv : ov f as s with
    | some z => exact fun h => by cases h; exact OV d _ _ _ _ hv σ hr
    | none => exact fun h => callS_sim K ih _ _ _ _ h σ hr
end sim
noncomputable def smT (k : Nat) (ok : List Nat) (inc : List (Nat × Nat)) (cmp : CmpOp → V → V → Option Bool) : Tab := { cfg.T with mu := fun i => Nat.beq i 0 || Nat.ble k i, ok := mem ok, inc := lk inc, cmp := cmp }
noncomputable def smC (k : Nat) (ok : List Nat) (inc : List (Nat × Nat)) (cmp : CmpOp → V → V → Option Bool) : Cfg := ⟨smT k ok inc cmp, 42, 39⟩
theorem tab_vals : (cfg.T.cl.all fun p => p.2.vals.all fun q => isCst q.2) = true := by decide +kernel
theorem tab_tps : (cfg.T.tp.all fun p => p.2.all isCst) = true := by decide +kernel
structure Rest (k : Nat) (ok : List Nat) (inc : List (Nat × Nat)) (cmp : CmpOp → V → V → Option Bool) (R : Tr) (σ0 : H) : Prop where
  k : R.ix.length = k
  ok : ∀ j ∈ ok, okV cfg.T (nuV R j) = true
  inc : ∀ p ∈ inc, ∃ x, nuV R p.1 = .int x ∧ nuV R p.2 = .int (x + 1)
  cmp : ∀ op a b r, cmp op a b = some r → ∃ x y, trV R a = .int x ∧ trV R b = .int y ∧ cmpI op x y = some r
  ne : ∀ i a, at? R.ix (i + 1) = some a → at? R.ix 0 ≠ some a
  L : R.L = σ0.length
theorem Rest.trOK {k : Nat} {ok : List Nat} {inc : List (Nat × Nat)} {cmp : CmpOp → V → V → Option Bool} {R : Tr} {σ0 : H} (h : Rest k ok inc cmp R σ0) (lt : ∀ i a, at? R.ix i = some a → a < R.L) : TrOK cfg.T (smT k ok inc cmp) R σ0 where
  fn := rfl
  cl := rfl
  ob := rfl
  tp := rfl
  mu := fun i e => orE e (fun e => .inl (nbeq.mp e)) fun e => .inr (by rw [h.k]; exact Nat.le_of_ble_eq_true e)
  muT := fun _ => rfl
  ok := fun j e => h.ok j (mem_of e)
  inc := fun j k e => h.inc (j, k) (lk_mem e)
  cmp := h.cmp
  vals := fun C cx a u h1 h2 => all_ok (all_ok tab_vals _ (lk_mem h1)) _ (lk_mem h2)
  tps := fun a xs h1 => all_ok tab_tps _ (lk_mem h1)
  lt := lt
  ne := h.ne
  L := h.L
theorem HR.start {R : Tr} {s σ : H} (hk : R.ix.length = s.length) (hL : R.L = σ.length) (h : ∀ i o, at? s i = some o → at? σ (adT R i) = some (trO R o)) : HR R σ s σ := ⟨by rw [hL, hk], Nat.le_of_eq hk, h, fun j o _ h => h⟩
theorem at0 {P : Nat → O → Prop} : ∀ i o, at? ([] : H) i = some o → P i o := fun i o h => by cases h
theorem at1 {s : H} {x : O} {P : Nat → O → Prop} (h : P 0 x) (k : ∀ i o, at? s i = some o → P (i + 1) o) : ∀ i o, at? (x :: s) i = some o → P i o := fun i o e => by
  cases i with
  | zero => cases e; exact h
  | succ i => exact k i o e
theorem start_lt {R : Tr} {s σ : H} (hk : R.ix.length = s.length) (hL : R.L = σ.length) (h : ∀ i o, at? s i = some o → at? σ (adT R i) = some (trO R o)) : ∀ i a, at? R.ix i = some a → a < R.L := fun i a e => by
  obtain ⟨o, ho⟩ := at_some (l := s) (i := i) (by rw [← hk]; exact at_lt e)
  have := at_lt (h i o ho)
  unfold adT at this
  rw [e] at this
  rw [hL]; exact this
theorem small_call {k : Nat} {ok : List Nat} {inc : List (Nat × Nat)} {cmp : CmpOp → V → V → Option Bool} {R : Tr} {s σ : H} {ov : CF} {e d : Nat} {f : V} {as : List V} {r : V × H} (hs : R.ix.length = s.length) (K : Rest k ok inc cmp R σ) (OV : TrOK cfg.T (smT k ok inc cmp) R σ → ∀ d, CfS R σ ov (callN cfg (d + e + 1)))
    (h : ∀ i o, at? s i = some o → at? σ (adT R i) = some (trO R o)) (run : callO ov (smC k ok inc cmp) d f as s = some r) : Ok (WV R σ r) (callN cfg (d + e) (trV R f) (trL R as) σ) := by
  have T := K.trOK (start_lt hs K.L h)
  exact callO_sim (ap := 42) (po := 39) T (OV T) d f as s r run σ (.start hs K.L h)
theorem small_block {k : Nat} {ok : List Nat} {inc : List (Nat × Nat)} {cmp : CmpOp → V → V → Option Bool} {R : Tr} {s σ : H} {ov : CF} {e d n : Nat} {b : List MS} {l m : Loc} {r : Fl × Loc × H} (hs : R.ix.length = s.length) (K : Rest k ok inc cmp R σ) (OV : TrOK cfg.T (smT k ok inc cmp) R σ → ∀ d, CfS R σ ov (callN cfg (d + e + 1)))
    (h : ∀ i o, at? s i = some o → at? σ (adT R i) = some (trO R o)) (hl : LocS R l m) (run : exB (smC k ok inc cmp) (callO ov (smC k ok inc cmp) d) n l b s = some r) : Ok (WF R σ r) (exB cfg (callN cfg (d + e)) n m b σ) := by
  have T := K.trOK (start_lt hs K.L h)
  exact (ex_sim (ap := 42) (po := 39) T (callO_sim (ap := 42) (po := 39) T (OV T) d) n).sB _ _ _ _ run σ m (.start hs K.L h) hl
noncomputable def ov0 : CF := fun _ _ _ => none
theorem ov0_ok {R : Tr} {σ : H} {cf : Nat → CF} : ∀ d, CfS R σ ov0 (cf d) := fun d f as s r h => by cases h
noncomputable def oMo (t l a st ca de mo nd sc pr vl fr : V) : O := .inst 1090 [(47, t), (45, .int 5000), (46, l), (48, a), (49, st), (50, ca), (51, de), (53, mo), (32, nd), (29, sc), (54, pr), (27, vl), (36, fr)]
noncomputable def oFo (k nd sc dn out dp : V) : O := .inst 835 [(31, k), (32, nd), (29, sc), (33, dn), (28, out), (34, dp)]
noncomputable def oCn (v : V) : O := .inst 515 [(11, v)]
noncomputable def oLn (k : V) : O := .inst 534 [(12, k)]
noncomputable def oGn (k : V) : O := .inst 553 [(13, k)]
noncomputable def oIf (a b c : V) : O := .inst 586 [(14, a), (15, b), (16, c)]
noncomputable def oLa (lab ps rest body : V) : O := .inst 633 [(17, lab), (18, ps), (19, rest), (20, body)]
noncomputable def oCa (f as : V) : O := .inst 666 [(21, f), (22, as)]
noncomputable def oSq (its : V) : O := .inst 699 [(23, its)]
noncomputable def oFx (nums lams body : V) : O := .inst 732 [(24, nums), (25, lams), (20, body)]
noncomputable def oSo (outer vals : V) : O := .inst 807 [(28, outer), (27, vals)]
noncomputable def oCo (node scope : V) : O := .inst 863 [(3, .str (PySem.Str.ofString "")), (32, node), (29, scope)]
noncomputable def oKt (frame : V) : O := .inst 882 [(3, .str (PySem.Str.ofString "continuation")), (36, frame)]
noncomputable def oCp (word title : V) : O := .inst 426 [(3, title), (5, word)]
noncomputable def oGl (table vals : V) : O := .inst 779 [(26, table), (27, vals)]
noncomputable def oBl (store : V) : O := .inst 922 [(43, store)]
noncomputable def isOpq (j : Nat) : V → Bool
  | .opq i => Nat.beq i j
  | _ => false
noncomputable def noCmp : CmpOp → V → V → Option Bool := fun _ _ _ => none
theorem opq_eq {j : Nat} {v : V} (h : isOpq j v = true) : v = .opq j := by
  cases v with
  | opq i => rw [show i = j from nbeq.mp h]
  | _ => cases h
noncomputable def Dep (σ : H) (fr : V) (dp : Int) : Prop := (fr = .none ∧ dp = 0) ∨ ∃ φ k nd sc dn out, fr = .ref φ ∧ at? σ φ = some (oFo k nd sc dn out (.int dp))
theorem Dep.ok {σ : H} {fr : V} {dp : Int} (h : Dep σ fr dp) : okV cfg.T fr = true := by
  rcases h with ⟨e, _⟩ | ⟨_, _, _, _, _, _, e, _⟩ <;> rw [e] <;> rfl
theorem heap_ext {α : Type} : ∀ (a b : List α), a.length = b.length → (∀ i x, at? a i = some x → at? b i = some x) → b = a := by
  intro a
  induction a with
  | nil => intro b h _; exact List.length_eq_zero_iff.mp h.symm
  | cons x a ih =>
    intro b h k
    cases b with
    | nil => cases h
    | cons y b =>
      have e : y = x := Option.some.inj (k 0 x rfl)
      rw [e, ih b (Nat.succ.inj h) fun i z hz => k (i + 1) z hz]
theorem HR.app1 {R : Tr} {σ s0 σ' : H} {x : O} (h : HR R σ (s0 ++ [x]) σ') (hs : R.ix.length = s0.length) (hL : R.L = σ.length) (h0 : ∀ a, at? R.ix 0 = some a → at? σ' a = at? σ a) : σ' = σ ++ [trO R x] := by
  have hl : σ'.length = σ.length + 1 := by
    have := h.len
    rw [List.length_append, hL, hs] at this
    have e : [x].length = 1 := rfl
    omega
  refine heap_ext _ _ (by rw [hl, List.length_append]; rfl) fun i y hy => ?_
  rcases at_app_cases hy with hy | ⟨e1, e2⟩
  · by_cases hc : at? R.ix 0 = some i
    · rw [h0 i hc]; exact hy
    · exact h.ext i y hc hy
  · have := h.obj s0.length x (at_end _ _)
    have e : adT R s0.length = σ.length := by
      unfold adT
      cases hc : at? R.ix s0.length with
      | some a => exact absurd (at_lt hc) (by rw [hs]; exact Nat.lt_irrefl _)
      | none => show R.L + (s0.length - R.ix.length) = _; rw [hs, hL, Nat.sub_self]; rfl
    rw [e] at this
    rw [e1, e2]
    exact this
theorem sr_frame0 (d : Nat) : callO ov0 (smC 0 [] [] noCmp) (d + 2) (.val 835) [.opq 0, .opq 1, .opq 2, .opq 3, .none] [] = some (.ref 0, [oFo (.opq 0) (.opq 1) (.opq 2) (.opq 3) .none (.int 1)]) := by kernel_rfl
theorem sr_frame1 (d : Nat) : callO ov0 (smC 1 [9] [(9, 10)] noCmp) (d + 2) (.val 835) [.opq 0, .opq 1, .opq 2, .opq 3, .ref 0] [oFo (.opq 4) (.opq 5) (.opq 6) (.opq 7) (.opq 8) (.opq 9)] = some (.ref 1, [oFo (.opq 4) (.opq 5) (.opq 6) (.opq 7) (.opq 8) (.opq 9), oFo (.opq 0) (.opq 1) (.opq 2) (.opq 3) (.ref 0) (.opq 10)]) := by kernel_rfl
theorem noRest {R : Tr} {σ : H} {ix : List Nat} {nu : List V} (e : R = ⟨ix, nu, σ.length⟩) (hx : ix.length ≤ 1) {ok : List Nat} {inc : List (Nat × Nat)} (hok : ∀ j ∈ ok, okV cfg.T (nuV R j) = true) (hinc : ∀ p ∈ inc, ∃ x, nuV R p.1 = .int x ∧ nuV R p.2 = .int (x + 1)) : Rest ix.length ok inc noCmp R σ := by
  subst e
  exact ⟨rfl, hok, hinc, fun _ _ _ _ h => (by cases h), fun i a h => absurd (at_lt h) (by show ¬ i + 1 < ix.length; omega), rfl⟩
theorem frame_eq {σ : H} {fr : V} {dp : Int} (hd : Dep σ fr dp) (d : Nat) (k nd sc dn : V) : callN cfg (d + 2) (.val 835) [k, nd, sc, dn, fr] σ = some (.ref σ.length, σ ++ [oFo k nd sc dn fr (.int (dp + 1))]) := by
  rcases hd with ⟨e1, e2⟩ | ⟨φ, k', nd', sc', dn', out, e1, e2⟩
  · subst e1 e2
    have K : Rest 0 [] [] noCmp ⟨[], [k, nd, sc, dn], σ.length⟩ σ := noRest (ix := []) rfl (Nat.zero_le _) (fun _ h => by cases h) (fun _ h => by cases h)
    obtain ⟨⟨z1, z2⟩, h1, h2, h3⟩ := small_call (s := []) (e := 0) rfl K (fun _ => ov0_ok) at0 (sr_frame0 d)
    have h2 : z1 = .ref σ.length := h2
    have h4 : z2 = σ ++ [oFo k nd sc dn .none (.int (0 + 1))] := HR.app1 (s0 := []) h3 rfl rfl (fun a h => by cases h)
    rw [h2, h4] at h1
    exact h1
  · subst e1
    have K : Rest 1 [9] [(9, 10)] noCmp ⟨[φ], [k, nd, sc, dn, k', nd', sc', dn', out, .int dp, .int (dp + 1)], σ.length⟩ σ := noRest (ix := [φ]) rfl (Nat.le_refl _)
      (fun j h => by cases List.mem_singleton.mp h; rfl) (fun p h => by cases List.mem_singleton.mp h; exact ⟨dp, rfl, rfl⟩)
    obtain ⟨⟨z1, z2⟩, h1, h2, h3⟩ := small_call (s := [oFo (.opq 4) (.opq 5) (.opq 6) (.opq 7) (.opq 8) (.opq 9)]) (e := 0) rfl K (fun _ => ov0_ok) (at1 e2 at0) (sr_frame1 d)
    have h2 : z1 = .ref σ.length := h2
    have h0 : at? z2 φ = some (oFo k' nd' sc' dn' out (.int dp)) := h3.obj 0 _ rfl
    have h4 : z2 = σ ++ [oFo k nd sc dn (.ref φ) (.int (dp + 1))] := HR.app1 (s0 := [oFo (.opq 4) (.opq 5) (.opq 6) (.opq 7) (.opq 8) (.opq 9)]) h3 rfl rfl (fun a h => by cases h; rw [h0, e2])
    rw [h2, h4] at h1
    exact h1
noncomputable def finT : ME := .or (.cmp CmpOp.NotEq (.attr (.nm 0) 53) (.cst (.int 2))) (.cmp CmpOp.IsNot (.attr (.nm 0) 36) (.cst .none))
noncomputable def finB : List MS := [.expr (.meth (.nm 0) 56 [])]
noncomputable def tick (c : Cfg) (cf : CF) (a : V) (s : H) : Option H := (evT c cf 30 [(0, a)] finT s).bind fun p => gd p.1 ((exB c cf 30 [(0, a)] finB p.2).bind fun q => gd (nextF q.1) (some q.2.2))
noncomputable def ticks (c : Cfg) (cf : CF) (a : V) : Nat → H → Option H
  | 0, s => some s
  | k + 1, s => (tick c cf a s).bind (ticks c cf a k)
noncomputable def Runs (m : Nat) (Φ : H → Prop) (k : Nat) (σ : H) : Prop := ∀ (d N : Nat), k ≤ N → ∃ σ', exS cfg (callN cfg (d + 8)) (N + 30) [(0, .ref m)] (.whileS finT finB) σ = some (.next, [(0, .ref m)], σ') ∧ Φ σ'
theorem Runs.le {m : Nat} {Φ : H → Prop} {k k' : Nat} {σ : H} (h : Runs m Φ k σ) (hk : k ≤ k') : Runs m Φ k' σ := fun d N hN => h d N (Nat.le_trans hk hN)
section eqs
variable (c : Cfg) (cf : CF) (n : Nat) (l : Loc) (s : H)
theorem evE_nm (i : Nat) : evE c cf (n + 1) l (.nm i) s = (lk l i).map fun v => (v, s) := rfl
theorem evE_cst (v : V) : evE c cf (n + 1) l (.cst v) s = gd (isCst v) (some (v, s)) := rfl
theorem evE_attr (e : ME) (a : Nat) : evE c cf (n + 1) l (.attr e a) s = (evE c cf n l e s).bind fun p => (getA c.T p.1 a p.2).map fun u => (u, p.2) := rfl
theorem evE_meth (o : ME) (a : Nat) (es : List ME) : evE c cf (n + 1) l (.meth o a es) s = (evE c cf n l o s).bind fun p => (getM c.T p.1 a p.2 c.nmApp c.nmPop).bind fun f => (evL (evE c cf n l) es p.2).bind fun q => cf f.1 (f.2 ++ q.1) q.2 := rfl
theorem evT_or (a b : ME) : evT c cf (n + 1) l (.or a b) s = (evT c cf n l a s).bind fun p => bif p.1 then some p else evT c cf n l b p.2 := rfl
theorem evT_cmp (op : CmpOp) (a b : ME) : evT c cf (n + 1) l (.cmp op a b) s = (evE c cf n l a s).bind fun p => (evE c cf n l b p.2).bind fun q => (cmpB c.T op p.1 q.1 q.2).map fun t => (t, q.2) := rfl
theorem exS_expr (e : ME) : exS c cf (n + 1) l (.expr e) s = (evE c cf n l e s).bind fun p => gd (dropV p.1) (some (.next, l, p.2)) := rfl
theorem exB_nil : exB c cf (n + 1) l [] s = some (.next, l, s) := rfl
theorem exB_cons (x : MS) (r : List MS) : exB c cf (n + 1) l (x :: r) s = seqR (fun l1 σ1 => exB c cf n l1 r σ1) (exS c cf n l x s) := rfl
theorem exS_while (t : ME) (b : List MS) : exS c cf (n + 1) l (.whileS t b) s = (evT c cf n l t s).bind fun p => bif p.1 then loopR (fun l1 σ1 => exS c cf n l1 (.whileS t b) σ1) (exB c cf n l b p.2) else some (.next, l, p.2) := rfl
theorem evL_nil (f : ME → H → Option (V × H)) : evL f [] s = some ([], s) := rfl
noncomputable def atC (op : CmpOp) (a : Nat) (v : V) : Option Bool := (lk l 0).bind fun w => (getA c.T w a s).bind fun u => cmpB c.T op u v s
theorem evAC (op : CmpOp) (a : Nat) {v : V} (hv : isCst v = true) : evT c cf (n + 3) l (.cmp op (.attr (.nm 0) a) (.cst v)) s = (atC c l s op a v).map fun t => (t, s) := by
  rw [evT_cmp, evE_attr, evE_nm]
  unfold atC
  cases lk l 0 with
  | none => rfl
  | some w =>
    show ((getA c.T w a s).map _).bind _ = ((getA c.T w a s).bind _).map _
    cases getA c.T w a s with
    | none => rfl
    | some u =>
      show (evE c cf (n + 1 + 1) l (.cst v) s).bind _ = _
      rw [evE_cst, hv]
      rfl
theorem finT_eq : evT c cf (n + 5) l finT s = (atC c l s .NotEq 53 (.int 2)).bind fun t => bif t then some (true, s) else (atC c l s .IsNot 36 .none).map fun t => (t, s) := by
  unfold finT
  rw [evT_or, evAC c cf (n + 1) l s _ _ rfl]
  cases atC c l s .NotEq 53 (.int 2) with
  | none => rfl
  | some t =>
    cases t with
    | true => rfl
    | false => exact evAC c cf (n + 1) l s _ _ rfl
end eqs
theorem finB_eq (c : Cfg) (cf : CF) (n : Nat) (l : Loc) (s : H) : exB c cf (n + 5) l finB s = seqR (fun l1 σ1 => some (Fl.next, l1, σ1)) (((lk l 0).bind fun v => (getM c.T v 56 s c.nmApp c.nmPop).bind fun f => cf f.1 (f.2 ++ []) s).bind fun p => gd (dropV p.1) (some (Fl.next, l, p.2))) := by
  unfold finB
  rw [exB_cons, exS_expr, evE_meth, evE_nm]
  cases lk l 0 <;> rfl
theorem finB_l {c : Cfg} {cf : CF} {l : Loc} {s : H} {q : Fl × Loc × H} (e : exB c cf 30 l finB s = some q) (hn : nextF q.1 = true) : q = (.next, l, q.2.2) := by
  rw [show (30 : Nat) = 25 + 5 from rfl, finB_eq] at e
  exact seqE e (fun l1 σ1 h1 h2 => bdE h1 fun p _ h1 => gdE h1 fun _ h1 => by cases h1; cases h2; rfl) fun h1 h2 => by rw [hn] at h2; cases h2
theorem while_tick {c : Cfg} {cf : CF} {a : V} {N : Nat} {s s1 : H} {y : Fl × Loc × H} (e : tick c cf a s = some s1) (h : exS c cf (N + 30) [(0, a)] (.whileS finT finB) s1 = some y) : exS c cf (N + 30 + 1) [(0, a)] (.whileS finT finB) s = some y := by
  rw [exS_while, show N + 30 = N + 25 + 5 from rfl, finT_eq, ← finT_eq (n := 25)]
  exact bdE e fun p g1 e => gdE e fun g2 e => bdE e fun q g3 e => gdE e fun g4 e => by
    rw [g1]
    show (bif p.1 then loopR (fun l1 σ1 => exS c cf (N + 30) l1 (.whileS finT finB) σ1) (exB c cf (N + 30) [(0, a)] finB p.2) else some (.next, [(0, a)], p.2)) = some y
    rw [g2, show N + 30 = N + 25 + 5 from rfl, finB_eq, ← finB_eq (n := 25), show 25 + 5 = 30 from rfl, g3, finB_l g3 g4, Option.some.inj e]
    exact h
section sim
variable {T S : Tab} {R : Tr} {σ0 : H} {ap po : Nat} {cfS cf : CF}
theorem tick_sim (K : TrOK T S R σ0) (CS : CfS R σ0 cfS cf) {a : V} {s s' : H} (e : tick ⟨S, ap, po⟩ cfS a s = some s') {σ : H} (h : HR R σ0 s σ) : Ok (HR R σ0 s') (tick ⟨T, ap, po⟩ cf (trV R a) σ) :=
  bdE e fun p hp e => gdE e fun ht e => bdE e fun q hq e => gdE e fun hn e => ((ev_sim (ap := ap) (po := po) K CS 30).2 _ _ _ _ hp σ [(0, trV R a)] h (LocS.tr R [(0, a)])).bind fun z hz => by
    rw [hz.1]
    refine .gd ht (((ex_sim (ap := ap) (po := po) K CS 30).sB _ _ _ _ hq _ [(0, trV R a)] hz.2 (LocS.tr R [(0, a)])).bind fun w hw => ?_)
    rw [hw.1, ← Option.some.inj e]
    refine .gd ?_ (.pure hw.2.2)
    revert hn
    cases q.1 <;> first | exact fun _ => rfl | exact fun h => by cases h
end sim
theorem ticks_run {R : Tr} {σ0 : H} {S : Tab} (K : TrOK cfg.T S R σ0) {m : Nat} (hm : adT R 0 = m) {ov : CF} (OV : ∀ d, CfS R σ0 ov (callN cfg (d + 3))) {Φ : H → Prop} {n : Nat} {s' : H} (q : ∀ σ', HR R σ0 s' σ' → Runs m Φ n σ') :
    ∀ (k : Nat) {s σ : H}, HR R σ0 s σ → (∀ d, ticks ⟨S, 42, 39⟩ (callO ov ⟨S, 42, 39⟩ (d + 6)) (.ref 0) k s = some s') → Runs m Φ (n + k) σ := by
  have key : ∀ (d k : Nat) {s σ : H}, HR R σ0 s σ → ticks ⟨S, 42, 39⟩ (callO ov ⟨S, 42, 39⟩ (d + 6)) (.ref 0) k s = some s' → ∀ N, n + k ≤ N → ∃ σ', exS cfg (callN cfg (d + 8)) (N + 30) [(0, .ref m)] (.whileS finT finB) σ = some (.next, [(0, .ref m)], σ') ∧ Φ σ' := by
    intro d k
    induction k with
    | zero => intro s σ h e N hN; cases e; exact q σ h d N hN
    | succ k ih =>
      intro s σ h e N hN
      refine bdE e fun s1 h1 e => ?_
      obtain ⟨σ1, g1, g2⟩ := tick_sim K (callO_sim (ap := 42) (po := 39) (e := 2) K OV (d + 6)) h1 h
      have g1 : tick cfg (callN cfg (d + 8)) (.ref (adT R 0)) σ = some σ1 := g1
      rw [hm] at g1
      obtain ⟨M, rfl⟩ : ∃ M, N = M + 1 := ⟨N - 1, by omega⟩
      obtain ⟨σ', h3, h4⟩ := ih g2 e M (by omega)
      exact ⟨σ', while_tick g1 h3, h4⟩
  exact fun k s σ h e d N hN => key d k h (e d) N hN
noncomputable def stepsL (s : Int) (r : List V) : Nat → List V
  | 0 => r
  | k + 1 => .int s :: stepsL (s + 1) r k
noncomputable def nuM (tops lib asg : Nat) (s c D dp : Int) (sc fr pr vl : V) (ex : List V) : List V := .ref tops :: .ref lib :: .ref asg :: stepsL s (stepsL c (.int D :: .int dp :: .int (dp + 1) :: sc :: fr :: pr :: vl :: ex) 6) 13
noncomputable def incM : List (Nat × Nat) := [(3, 4), (4, 5), (5, 6), (6, 7), (7, 8), (8, 9), (9, 10), (10, 11), (11, 12), (12, 13), (13, 14), (14, 15), (16, 17), (17, 18), (18, 19), (19, 20), (20, 21)]
noncomputable def okM : List Nat := [0, 1, 2, 3, 4, 5, 6, 7, 8, 9, 10, 11, 12, 13, 14, 15, 16, 17, 18, 19, 20, 21, 22, 24, 25, 26]
noncomputable def stp : V → Bool
  | .opq j => Nat.ble 3 j && Nat.ble j 14
  | _ => false
noncomputable def cmpM (gt : Bool) (op : CmpOp) (a b : V) : Option Bool := match op with
  | .GtE => gd (stp a && isLit 5000 b) (some false)
  | .Gt => gd (isOpq 24 a) (bif isOpq 22 b then some gt else gd (isOpq 24 b) (some false))
  | _ => none
noncomputable def m1 (mo : Int) (nd sc pr vl fr : V) : O := oMo (.ref 2) (.ref 1) (.opq 2) (.opq 3) (.opq 16) (.opq 22) (.int mo) nd sc pr vl fr
noncomputable def envO : H := [oBl .none, oGl (.opq 29) (.ref 3), .dict [(2, .ref 5), (1, .ref 4)], oCp (.int 2) (.opq 30), oCp (.int 3) (.opq 31)]
noncomputable def arg5 {α : Type} (l : List α) : Option {p : α × α × α × α × α // l = [p.1, p.2.1, p.2.2.1, p.2.2.2.1, p.2.2.2.2]} := match l with
  | [a, b, c, d, e] => some ⟨(a, b, c, d, e), rfl⟩
  | _ => none
noncomputable def valV (v : V) : Option {a : PySem.Addr // v = .val a} := match v with
  | .val a => some ⟨a, rfl⟩
  | _ => none
noncomputable def ovF : CF := fun f as s => (valV f).bind fun a => (arg5 as).bind fun p => gd (Nat.beq a.1 835 && isOpq 26 p.1.2.2.2.2) (some (.ref s.length, s ++ [oFo p.1.1 p.1.2.1 p.1.2.2.1 p.1.2.2.2.1 (.opq 26) (.opq 24)]))
theorem at_mem {α : Type} {l : List α} : ∀ {i : Nat} {x : α}, at? l i = some x → x ∈ l := by
  induction l with
  | nil => intro i x h; cases h
  | cons a l ih =>
    intro i x h
    cases i with
    | zero => cases h; exact .head _
    | succ i => exact .tail _ (ih h)
theorem stepsL_at {r : List V} : ∀ (k : Nat) (s : Int) (i : Nat), i < k → at? (stepsL s r k) i = some (.int (s + i)) := by
  intro k
  induction k with
  | zero => intro s i h; exact absurd h (Nat.not_lt_zero _)
  | succ k ih =>
    intro s i h
    cases i with
    | zero => show some (V.int s) = _; rw [show s + ((0 : Nat) : Int) = s from Int.add_zero s]
    | succ i => show at? (stepsL (s + 1) r k) i = _; rw [ih (s + 1) i (Nat.lt_of_succ_lt_succ h), show s + 1 + (i : Int) = s + ((i + 1 : Nat) : Int) by omega]
theorem stepsL_over {r : List V} : ∀ (k : Nat) (s : Int) (i : Nat), at? (stepsL s r k) (k + i) = at? r i := by
  intro k
  induction k with
  | zero => intro s i; rw [Nat.zero_add]; rfl
  | succ k ih => intro s i; rw [Nat.add_right_comm]; exact ih (s + 1) i
structure Nums where
  tops : Nat
  lib : Nat
  asg : Nat
  s : Int
  c : Int
  D : Int
section
variable {tops lib asg : Nat} {s c D dp : Int} {sc fr pr vl : V} {ex : List V}
theorem nu_step {ix : List Nat} {L i : Nat} (h : i < 13) : nuV ⟨ix, nuM tops lib asg s c D dp sc fr pr vl ex, L⟩ (3 + i) = .int (s + i) := by
  have : at? (nuM tops lib asg s c D dp sc fr pr vl ex) (3 + i) = some (.int (s + i)) := by
    rw [Nat.add_comm]; exact stepsL_at 13 s i h
  unfold nuV
  rw [this]
theorem nu_call {ix : List Nat} {L i : Nat} (h : i < 6) : nuV ⟨ix, nuM tops lib asg s c D dp sc fr pr vl ex, L⟩ (16 + i) = .int (c + i) := by
  have : at? (nuM tops lib asg s c D dp sc fr pr vl ex) (16 + i) = some (.int (c + i)) := by
    rw [show 16 + i = 13 + i + 3 by omega]
    exact (stepsL_over 13 s i).trans (stepsL_at 6 c i h)
  unfold nuV
  rw [this]
theorem inc_of : ∀ p ∈ incM, (∃ i, i < 12 ∧ p = (3 + i, 3 + (i + 1))) ∨ ∃ i, i < 5 ∧ p = (16 + i, 16 + (i + 1)) := by
  have z : (incM.all fun p => (Nat.ble 3 p.1 && (Nat.ble p.1 14 && Nat.beq p.2 (p.1 + 1))) || (Nat.ble 16 p.1 && (Nat.ble p.1 20 && Nat.beq p.2 (p.1 + 1)))) = true := by decide +kernel
  intro p hp
  obtain ⟨a, b⟩ := p
  refine orE (all_ok z _ hp) (fun h => ?_) fun h => ?_
  · exact anE h fun h1 h => anE h fun h2 h3 => .inl ⟨a - 3, by have := Nat.le_of_ble_eq_true h1; have : a ≤ 14 := Nat.le_of_ble_eq_true h2; omega, by have : 3 ≤ a := Nat.le_of_ble_eq_true h1; have : b = a + 1 := nbeq.mp h3; exact Prod.ext (by show a = 3 + (a - 3); omega) (by show b = 3 + (a - 3 + 1); omega)⟩
  · exact anE h fun h1 h => anE h fun h2 h3 => .inr ⟨a - 16, by have := Nat.le_of_ble_eq_true h1; have : a ≤ 20 := Nat.le_of_ble_eq_true h2; omega, by have : 16 ≤ a := Nat.le_of_ble_eq_true h1; have : b = a + 1 := nbeq.mp h3; exact Prod.ext (by show a = 16 + (a - 16); omega) (by show b = 16 + (a - 16 + 1); omega)⟩
theorem stp_of {v : V} (h : stp v = true) : ∃ i, i < 12 ∧ v = .opq (3 + i) := by
  cases v with
  | opq j => exact anE h fun h1 h2 => ⟨j - 3, by have : 3 ≤ j := Nat.le_of_ble_eq_true h1; have : j ≤ 14 := Nat.le_of_ble_eq_true h2; omega, congrArg V.opq (by have : 3 ≤ j := Nat.le_of_ble_eq_true h1; omega)⟩
  | _ => cases h
theorem restM {σ : H} {m : Nat} {ix okx : List Nat} (hne : ∀ i a, at? ix i = some a → a ≠ m) (hf : okV cfg.T fr = true) (hsc : okV cfg.T sc = true) (hs : s + 12 ≤ 5000) (hok : ∀ j ∈ okx, okV cfg.T (nuV ⟨m :: ix, nuM tops lib asg s c D dp sc fr pr vl ex, σ.length⟩ j) = true) :
    Rest (ix.length + 1) (okM ++ okx) incM (cmpM (decide (dp + 1 > D))) ⟨m :: ix, nuM tops lib asg s c D dp sc fr pr vl ex, σ.length⟩ σ where
  k := rfl
  ok := fun j hj => by
    rcases List.mem_append.mp hj with hj | hj
    · have z : (okM.all fun j => okV cfg.T (nuV ⟨m :: ix, nuM tops lib asg s c D dp sc fr pr vl ex, σ.length⟩ j)) = (okV cfg.T sc && (okV cfg.T fr && true)) := rfl
      rw [hsc, hf] at z
      exact all_ok z j hj
    · exact hok j hj
  inc := fun p hp => by
    rcases inc_of p hp with ⟨i, hi, e⟩ | ⟨i, hi, e⟩
    · rw [e]
      exact ⟨s + i, nu_step (Nat.lt_succ_of_lt hi), (nu_step (Nat.succ_lt_succ hi)).trans (congrArg V.int (by omega))⟩
    · rw [e]
      exact ⟨c + i, nu_call (Nat.lt_succ_of_lt hi), (nu_call (Nat.succ_lt_succ hi)).trans (congrArg V.int (by omega))⟩
  cmp := fun op a b r h => by
    cases op with
    | GtE =>
      exact gdE h fun h1 h => anE h1 fun h1 h2 => by
        obtain ⟨i, hi, e⟩ := stp_of h1
        rw [e, lit_eq h2, ← Option.some.inj h]
        exact ⟨s + i, 5000, nu_step (Nat.lt_succ_of_lt hi), rfl, congrArg some (decide_eq_false (by omega))⟩
    | Gt =>
      exact gdE h fun h1 h => by
        rw [opq_eq h1]
        refine cdE h (fun h2 h => ?_) fun _ h => gdE h fun h2 h => ?_
        · rw [opq_eq h2, ← Option.some.inj h]
          exact ⟨dp + 1, D, rfl, rfl, rfl⟩
        · rw [opq_eq h2, ← Option.some.inj h]
          exact ⟨dp + 1, dp + 1, rfl, rfl, congrArg some (decide_eq_false (Int.lt_irrefl _))⟩
    | _ => cases h
  ne := fun i a h c => hne i a h (Option.some.inj c).symm
  L := rfl
theorem Dep.ext {σ σ' : H} {m : Nat} (hm : ∀ k nd sc dn out dp, at? σ m ≠ some (oFo k nd sc dn out dp)) (E : ∀ j o, some m ≠ some j → at? σ j = some o → at? σ' j = some o) (h : Dep σ fr dp) : Dep σ' fr dp := by
  rcases h with h | ⟨φ, k, nd, sc, dn, out, e, h⟩
  · exact .inl h
  · exact .inr ⟨φ, k, nd, sc, dn, out, e, E φ _ (fun c => hm k nd sc dn out (.int dp) (by rw [Option.some.inj c]; exact h)) h⟩
theorem ovF_ok {σ : H} {m : Nat} {ix : List Nat} (hm : ∀ k nd sc dn out dp, at? σ m ≠ some (oFo k nd sc dn out dp)) (hd : Dep σ fr dp) (d : Nat) : CfS ⟨m :: ix, nuM tops lib asg s c D dp sc fr pr vl ex, σ.length⟩ σ ovF (callN cfg (d + 3)) := fun f as s' r e σ' h =>
  bsE e fun a ha e => bsE e fun p hp e => gdE e fun hc e => anE hc fun h1 h2 => by
    obtain ⟨k, nd, sc', dn, fr'⟩ := p
    have h1 : a = 835 := nbeq.mp h1
    have h2 : fr' = .opq 26 := opq_eq h2
    subst h1 h2
    rw [ha, hp, ← Option.some.inj e]
    have hd' := hd.ext hm (fun j o hj ho => h.ext j o hj ho)
    refine ⟨_, frame_eq hd' (d + 1) _ _ _ _, h.ref, h.new _⟩
end
def notM : O → Bool
  | .inst C _ => !(Nat.beq C 1090)
  | _ => true
structure EnvA where
  ds : Nat
  r1 : Nat
  r2 : Nat
  tb : V
  t1 : V
  t2 : V
structure Env1 (σ : H) (tops lib : Nat) (a : EnvA) : Prop where
  lib : at? σ lib = some (oBl .none)
  tops : at? σ tops = some (oGl a.tb (.ref a.ds))
  ds : at? σ a.ds = some (.dict [(2, .ref a.r2), (1, .ref a.r1)])
  r1 : at? σ a.r1 = some (oCp (.int 2) a.t1)
  r2 : at? σ a.r2 = some (oCp (.int 3) a.t2)
noncomputable def Mo (u : Nums) (mo : Int) (nd sc pr vl fr : V) : O := oMo (.ref u.tops) (.ref u.lib) (.ref u.asg) (.int u.s) (.int u.c) (.int u.D) (.int mo) nd sc pr vl fr
noncomputable def RM (m : Nat) (u : Nums) (a : EnvA) (L : Nat) (dp : Int) (sc fr pr vl : V) (ix : List Nat) (ex : List V) : Tr := ⟨m :: u.lib :: u.tops :: a.ds :: a.r1 :: a.r2 :: ix, nuM u.tops u.lib u.asg u.s u.c u.D dp sc fr pr vl (a.tb :: a.t1 :: a.t2 :: ex), L⟩
noncomputable def cM (k : Nat) (okx : List Nat) (gt : Bool) : Cfg := smC (k + 6) (okM ++ okx) incM (cmpM gt)
noncomputable def runV (ov : CF) (k : Nat) (okx : List Nat) (gt : Bool) (d : Nat) (n : Nat) (s : H) : Option H := ticks (cM k okx gt) (callO ov (cM k okx gt) (d + 6)) (.ref 0) n s
noncomputable def runO := runV ovF
theorem run_M {σ : H} {m : Nat} {u : Nums} {a : EnvA} {mo : Int} {nd sc0 pr0 vl0 fr0 sc pr vl fr nds scs prs vls frs : V} {dp : Int} {objs : H} {ov : CF} {s' : Bool → H} {ix okx : List Nat} {ex : List V} {k n K : Nat} {Φ : H → Prop}
    (run : ∀ gt d, runV ov K okx gt d k (m1 mo nds scs prs vls frs :: (envO ++ objs)) = some (s' gt))
    (OV : ∀ d, CfS (RM m u a σ.length dp sc fr pr vl ix ex) σ ov (callN cfg (d + 3))) (st : at? σ m = some (Mo u mo nd sc0 pr0 vl0 fr0)) (E : Env1 σ u.tops u.lib a) (hf : okV cfg.T fr = true) (hsc : okV cfg.T sc = true) (hs : u.s + 12 ≤ 5000)
    (e1 : trV (RM m u a σ.length dp sc fr pr vl ix ex) nds = nd) (e2 : trV (RM m u a σ.length dp sc fr pr vl ix ex) scs = sc0) (e3 : trV (RM m u a σ.length dp sc fr pr vl ix ex) prs = pr0) (e4 : trV (RM m u a σ.length dp sc fr pr vl ix ex) vls = vl0) (e5 : trV (RM m u a σ.length dp sc fr pr vl ix ex) frs = fr0)
    (hK : K = objs.length) (hix : ix.length = objs.length) (hno : objs.all notM = true) (known : ∀ i o, at? objs i = some o → at? σ (adT (RM m u a σ.length dp sc fr pr vl ix ex) (i + 6)) = some (trO (RM m u a σ.length dp sc fr pr vl ix ex) o))
    (hok : ∀ j ∈ okx, okV cfg.T (nuV (RM m u a σ.length dp sc fr pr vl ix ex) j) = true)
    (q : ∀ gt σ', gt = decide (dp + 1 > u.D) → HR (RM m u a σ.length dp sc fr pr vl ix ex) σ (s' gt) σ' → Runs m Φ n σ') : Runs m Φ (n + k) σ := by
  have allk : ∀ i o, at? (envO ++ objs) i = some o → at? σ (adT (RM m u a σ.length dp sc fr pr vl ix ex) (i + 1)) = some (trO (RM m u a σ.length dp sc fr pr vl ix ex) o) ∧ notM o = true :=
    at1 ⟨E.lib, rfl⟩ (at1 ⟨E.tops, rfl⟩ (at1 ⟨E.ds, rfl⟩ (at1 ⟨E.r1, rfl⟩ (at1 ⟨E.r2, rfl⟩ fun i o h => ⟨known i o h, all_ok hno _ (at_mem h)⟩))))
  have hlen : (RM m u a σ.length dp sc fr pr vl ix ex).ix.length = (m1 mo nds scs prs vls frs :: (envO ++ objs)).length := by show ix.length + 1 + 1 + 1 + 1 + 1 + 1 = objs.length + 1 + 1 + 1 + 1 + 1 + 1; rw [hix]
  have hne : ∀ i b, at? (u.lib :: u.tops :: a.ds :: a.r1 :: a.r2 :: ix) i = some b → b ≠ m := fun i b h c => by
    obtain ⟨o, ho⟩ := at_some (l := envO ++ objs) (i := i) (by have := at_lt h; show _ < objs.length + 1 + 1 + 1 + 1 + 1; rw [← hix]; exact this)
    obtain ⟨h1, h2⟩ := allk i o ho
    have e : adT (RM m u a σ.length dp sc fr pr vl ix ex) (i + 1) = b := by
      unfold adT
      rw [show at? (RM m u a σ.length dp sc fr pr vl ix ex).ix (i + 1) = some b from h]
    rw [e, c, st] at h1
    cases o with
    | inst C fs =>
      have h1 := Option.some.inj h1
      have h3 : (!(Nat.beq C 1090)) = true := h2
      have h4 : C = 1090 := by
        have : (match O.inst 1090 [] with | .inst C _ => C | _ => 0) = (match trO (RM m u a σ.length dp sc fr pr vl ix ex) (.inst C fs) with | .inst C _ => C | _ => 0) := by rw [← h1]; rfl
        exact this.symm
      rw [h4] at h3
      cases h3
    | _ => cases h1
  have K := restM (tops := u.tops) (lib := u.lib) (asg := u.asg) (s := u.s) (c := u.c) (D := u.D) (dp := dp) (sc := sc) (fr := fr) (pr := pr) (vl := vl) (ex := a.tb :: a.t1 :: a.t2 :: ex) (σ := σ) (m := m) (okx := okx) hne hf hsc hs hok
  have h0 : ∀ i o, at? (m1 mo nds scs prs vls frs :: (envO ++ objs)) i = some o → at? σ (adT (RM m u a σ.length dp sc fr pr vl ix ex) i) = some (trO (RM m u a σ.length dp sc fr pr vl ix ex) o) := by
    refine at1 ?_ fun i o h => (allk i o h).1
    show at? σ m = some (oMo (.ref u.tops) (.ref u.lib) (.ref u.asg) (.int u.s) (.int u.c) (.int u.D) (.int mo) (trV _ nds) (trV _ scs) (trV _ prs) (trV _ vls) (trV _ frs))
    rw [e1, e2, e3, e4, e5]
    exact st
  have T := K.trOK (start_lt hlen rfl h0)
  have run := run (decide (dp + 1 > u.D))
  rw [hK, ← hix] at run
  exact ticks_run T rfl OV (fun σ' h => q _ σ' rfl h) k (.start hlen rfl h0) run
noncomputable def Ext (m : Nat) (σ σ' : H) : Prop := ∀ j o, some m ≠ some j → at? σ j = some o → at? σ' j = some o
theorem Ext.refl (m : Nat) (σ : H) : Ext m σ σ := fun _ _ _ h => h
theorem Ext.trans {m : Nat} {σ σ' σ'' : H} (a : Ext m σ σ') (b : Ext m σ' σ'') : Ext m σ σ'' := fun i o hi h => b i o hi (a i o hi h)
noncomputable def IsM (σ : H) (m : Nat) : Prop := ∃ fs, at? σ m = some (.inst 1090 fs)
theorem IsM.keep {σ σ' : H} {m i : Nat} {o : O} (hM : IsM σ m) (E : Ext m σ σ') (h : at? σ i = some o) (ho : notM o = true) : at? σ' i = some o := E i o (fun c => by
  obtain ⟨fs, hm⟩ := hM
  rw [← Option.some.inj c, hm] at h
  rw [← Option.some.inj h] at ho
  cases ho) h
theorem IsM.dep {σ σ' : H} {m : Nat} {fr : V} {dp : Int} (hM : IsM σ m) (E : Ext m σ σ') (h : Dep σ fr dp) : Dep σ' fr dp := by
  rcases h with h | ⟨φ, k, nd, sc, dn, out, e, h⟩
  · exact .inl h
  · exact .inr ⟨φ, k, nd, sc, dn, out, e, hM.keep E h rfl⟩
theorem IsM.env {σ σ' : H} {m tops lib : Nat} {a : EnvA} (M : IsM σ m) (E : Ext m σ σ') (h : Env1 σ tops lib a) : Env1 σ' tops lib a := ⟨M.keep E h.lib rfl, M.keep E h.tops rfl, M.keep E h.ds rfl, M.keep E h.r1 rfl, M.keep E h.r2 rfl⟩
structure LK (σ : H) (m : Nat) (u : Nums) (n : Nat) (sc fr : V) (dp : Int) : Prop where
  st : ∃ pr vl, at? σ m = some (Mo u 0 (.ref n) sc pr vl fr)
  fr : Dep σ fr dp
  sc : okV cfg.T sc = true
  env : ∃ a, Env1 σ u.tops u.lib a
structure GV (σ : H) (m : Nat) (u : Nums) (v fr : V) (dp : Int) : Prop where
  st : ∃ nd sc pr vi, at? σ m = some (Mo u 2 nd sc pr (.ref vi) fr) ∧ at? σ vi = some (.list [v])
  fr : Dep σ fr dp
  env : ∃ a, Env1 σ u.tops u.lib a
structure CL (σ : H) (m : Nat) (u : Nums) (f : V) (as : List V) (fr : V) (dp : Int) : Prop where
  st : ∃ nd sc vi, at? σ m = some (Mo u 1 nd sc f (.ref vi) fr) ∧ at? σ vi = some (.list as)
  fr : Dep σ fr dp
  env : ∃ a, Env1 σ u.tops u.lib a
noncomputable def Nums.up (u : Nums) (i j : Nat) (D : Int) : Nums := ⟨u.tops, u.lib, u.asg, u.s + i, u.c + j, D⟩
noncomputable def OkL (R : Tr) : List Nat → Prop
  | [] => True
  | j :: l => okV cfg.T (nuV R j) = true ∧ OkL R l
theorem OkL.all {R : Tr} {l : List Nat} (h : OkL R l) : ∀ j ∈ l, okV cfg.T (nuV R j) = true := by
  induction l with
  | nil => intro j hj; cases hj
  | cons a l ih => exact fun j hj => (List.mem_cons.mp hj).elim (fun e => e ▸ h.1) (ih h.2 j)
noncomputable def Kn (R : Tr) (σ : H) : Nat → H → Prop
  | _, [] => True
  | i, o :: l => at? σ (adT R i) = some (trO R o) ∧ Kn R σ (i + 1) l
theorem Kn.all {R : Tr} {σ : H} {l : H} {b : Nat} (h : Kn R σ b l) : ∀ i o, at? l i = some o → at? σ (adT R (i + b)) = some (trO R o) := by
  induction l generalizing b with
  | nil => intro i o h; cases h
  | cons x l ih =>
    intro i o e
    cases i with
    | zero => cases e; rw [Nat.zero_add]; exact h.1
    | succ i => rw [show i + 1 + b = i + (b + 1) from by omega]; exact ih h.2 i o e
section
variable {σ : H} {m : Nat} {u : Nums} {sc fr : V} {dp : Int} {Φ : H → Prop} {k n : Nat} {objs : H} {s' : Bool → H} {ix okx : List Nat} {ex : List V} {K : Nat}
theorem LK.isM {nd : Nat} (h : LK σ m u nd sc fr dp) : IsM σ m := by obtain ⟨pr, vl, h⟩ := h.st; exact ⟨_, h⟩
theorem GV.isM {v : V} (h : GV σ m u v fr dp) : IsM σ m := by obtain ⟨nd, sc, pr, vi, h, _⟩ := h.st; exact ⟨_, h⟩
theorem CL.isM {f : V} {as : List V} (h : CL σ m u f as fr dp) : IsM σ m := by obtain ⟨nd, sc, vi, h, _⟩ := h.st; exact ⟨_, h⟩
theorem notF {nd sc0 pr0 vl0 fr0 : V} {mo : Int} (st : at? σ m = some (Mo u mo nd sc0 pr0 vl0 fr0)) : ∀ k nd sc dn out dp, at? σ m ≠ some (oFo k nd sc dn out dp) := fun k nd sc dn out dp h => by rw [st] at h; cases h
theorem LK.run {nd : Nat} {objs : H} (run : ∀ gt d, runO K okx gt d k (m1 0 (.ref 6) (.opq 25) (.opq 27) (.opq 28) (.opq 26) :: (envO ++ objs)) = some (s' gt)) (h : LK σ m u nd sc fr dp) (hs : u.s + 12 ≤ 5000)
    (ix : List Nat) (ex : List V) (hn : at? ix 0 = some nd) (hK : K = objs.length) (hix : ix.length = objs.length) (hno : objs.all notM = true)
    (known : ∀ a pr vl, Kn (RM m u a σ.length dp sc fr pr vl ix ex) σ 6 objs)
    (hok : ∀ a pr vl, OkL (RM m u a σ.length dp sc fr pr vl ix ex) okx)
    (q : ∀ a pr vl gt σ', Env1 σ u.tops u.lib a → gt = decide (dp + 1 > u.D) → HR (RM m u a σ.length dp sc fr pr vl ix ex) σ (s' gt) σ' → Ext m σ σ' → Runs m Φ n σ') : Runs m Φ (n + k) σ := by
  obtain ⟨pr, vl, st⟩ := h.st
  obtain ⟨a, E⟩ := h.env
  refine run_M (a := a) (sc := sc) (fr := fr) (pr := pr) (vl := vl) run (fun d => ovF_ok (notF st) h.fr d) st E h.fr.ok h.sc hs ?_ rfl rfl rfl rfl hK hix hno (known a pr vl).all (hok a pr vl).all fun gt σ' hg H => q a pr vl gt σ' E hg H H.ext
  show V.ref (adT _ 6) = _
  unfold adT
  rw [show at? (RM m u a σ.length dp sc fr pr vl ix ex).ix 6 = some nd from hn]
theorem GV.run {v : V} {φ : Nat} {k0 nd0 dn : V} {vs k0s nds dns : V} {objs : H} (run : ∀ gt d, runO K okx gt d k (m1 2 (.opq 32) (.opq 33) (.opq 27) (.ref 6) (.ref 7) :: (envO ++ .list [vs] :: oFo k0s nds (.opq 25) dns (.opq 26) (.opq 24) :: objs)) = some (s' gt)) {fr0 : V} {dp0 : Int} (h : GV σ m u v fr0 dp0) (hfr : fr0 = .ref φ) (hf : at? σ φ = some (oFo k0 nd0 sc dn fr (.int (dp + 1)))) (hd : Dep σ fr dp) (hsc : okV cfg.T sc = true) (hs : u.s + 12 ≤ 5000)
    (ix : List Nat) (ex : List V) (hK : K = objs.length + 1 + 1) (hix : ix.length = objs.length) (hno : objs.all notM = true)
    (e : ∀ a pr vi nd1 sc1, trV (RM m u a σ.length dp sc fr pr (.ref vi) (vi :: φ :: ix) (nd1 :: sc1 :: ex)) vs = v ∧ trV (RM m u a σ.length dp sc fr pr (.ref vi) (vi :: φ :: ix) (nd1 :: sc1 :: ex)) k0s = k0 ∧ trV (RM m u a σ.length dp sc fr pr (.ref vi) (vi :: φ :: ix) (nd1 :: sc1 :: ex)) nds = nd0 ∧ trV (RM m u a σ.length dp sc fr pr (.ref vi) (vi :: φ :: ix) (nd1 :: sc1 :: ex)) dns = dn)
    (known : ∀ a pr vi nd1 sc1, Kn (RM m u a σ.length dp sc fr pr (.ref vi) (vi :: φ :: ix) (nd1 :: sc1 :: ex)) σ 8 objs)
    (hok : ∀ a pr vi nd1 sc1, OkL (RM m u a σ.length dp sc fr pr (.ref vi) (vi :: φ :: ix) (nd1 :: sc1 :: ex)) okx)
    (q : ∀ a pr vi nd1 sc1 gt σ', Env1 σ u.tops u.lib a → gt = decide (dp + 1 > u.D) → HR (RM m u a σ.length dp sc fr pr (.ref vi) (vi :: φ :: ix) (nd1 :: sc1 :: ex)) σ (s' gt) σ' → Ext m σ σ' → Runs m Φ n σ') : Runs m Φ (n + k) σ := by
  obtain ⟨nd1, sc1, pr, vi, st, hv⟩ := h.st
  obtain ⟨a, E⟩ := h.env
  subst hfr
  obtain ⟨e1, e2, e3, e4⟩ := e a pr vi nd1 sc1
  refine run_M (a := a) (sc := sc) (fr := fr) (pr := pr) (vl := .ref vi) (objs := .list [vs] :: oFo k0s nds (.opq 25) dns (.opq 26) (.opq 24) :: objs) run (fun d => ovF_ok (notF st) hd d) st E hd.ok hsc hs rfl rfl rfl rfl rfl hK (congrArg (· + 2) hix) hno (Kn.all (b := 6) (l := .list [vs] :: oFo k0s nds (.opq 25) dns (.opq 26) (.opq 24) :: objs) ⟨?_, ?_, known a pr vi nd1 sc1⟩) (hok a pr vi nd1 sc1).all fun gt σ' hg H => q a pr vi nd1 sc1 gt σ' E hg H H.ext
  · show at? σ vi = some (.list [trV _ vs])
    rw [e1]; exact hv
  · show at? σ φ = some (oFo (trV _ k0s) (trV _ nds) sc (trV _ dns) fr (.int (dp + 1)))
    rw [e2, e3, e4]; exact hf
theorem CL.run {f : V} {as : List V} {fs : V} {ass : List V} {objs : H} (run : ∀ gt d, runO K okx gt d k (m1 1 (.opq 32) (.opq 33) fs (.ref 6) (.opq 26) :: (envO ++ .list ass :: objs)) = some (s' gt)) (h : CL σ m u f as fr dp) (hsc : okV cfg.T sc = true) (hs : u.s + 12 ≤ 5000)
    (ix : List Nat) (ex : List V) (hK : K = objs.length + 1) (hix : ix.length = objs.length) (hno : objs.all notM = true)
    (e : ∀ a vi nd1 sc1, trV (RM m u a σ.length dp sc fr f (.ref vi) (vi :: ix) (nd1 :: sc1 :: ex)) fs = f ∧ trL (RM m u a σ.length dp sc fr f (.ref vi) (vi :: ix) (nd1 :: sc1 :: ex)) ass = as)
    (known : ∀ a vi nd1 sc1, Kn (RM m u a σ.length dp sc fr f (.ref vi) (vi :: ix) (nd1 :: sc1 :: ex)) σ 7 objs)
    (hok : ∀ a vi nd1 sc1, OkL (RM m u a σ.length dp sc fr f (.ref vi) (vi :: ix) (nd1 :: sc1 :: ex)) okx)
    (q : ∀ a vi nd1 sc1 gt σ', Env1 σ u.tops u.lib a → gt = decide (dp + 1 > u.D) → HR (RM m u a σ.length dp sc fr f (.ref vi) (vi :: ix) (nd1 :: sc1 :: ex)) σ (s' gt) σ' → Ext m σ σ' → Runs m Φ n σ') : Runs m Φ (n + k) σ := by
  obtain ⟨nd1, sc1, vi, st, hv⟩ := h.st
  obtain ⟨a, E⟩ := h.env
  obtain ⟨e1, e2⟩ := e a vi nd1 sc1
  refine run_M (a := a) (sc := sc) (fr := fr) (pr := f) (vl := .ref vi) (objs := .list ass :: objs) run (fun d => ovF_ok (notF st) h.fr d) st E h.fr.ok hsc hs rfl rfl e1 rfl rfl hK (congrArg (· + 1) hix) hno (Kn.all (b := 6) (l := .list ass :: objs) ⟨?_, known a vi nd1 sc1⟩) (hok a vi nd1 sc1).all fun gt σ' hg H => q a vi nd1 sc1 gt σ' E hg H H.ext
  show at? σ vi = some (.list (trL _ ass))
  rw [e2]; exact hv
theorem HR.st {a : EnvA} {L : Nat} {pr vl : V} {mo : Int} {i j : Nat} {dd nn sc' pr' vl' fr' : V} {r : H} {σ' : H} {D' : Int} (H : HR (RM m u a L dp sc fr pr vl ix ex) σ (oMo (.ref 2) (.ref 1) (.opq 2) (.opq (3 + i)) (.opq (16 + j)) dd (.int mo) nn sc' pr' vl' fr' :: (envO ++ r)) σ') (hi : i < 13) (hj : j < 6) (e1 : trV (RM m u a L dp sc fr pr vl ix ex) dd = .int D') :
    at? σ' m = some (Mo (u.up i j D') mo (trV (RM m u a L dp sc fr pr vl ix ex) nn) (trV (RM m u a L dp sc fr pr vl ix ex) sc') (trV (RM m u a L dp sc fr pr vl ix ex) pr') (trV (RM m u a L dp sc fr pr vl ix ex) vl') (trV (RM m u a L dp sc fr pr vl ix ex) fr')) := by
  have h := H.obj 0 _ rfl
  have h : at? σ' m = some (oMo (.ref u.tops) (.ref u.lib) (.ref u.asg) (nuV (RM m u a L dp sc fr pr vl ix ex) (3 + i)) (nuV (RM m u a L dp sc fr pr vl ix ex) (16 + j)) (trV _ dd) (.int mo) (trV _ nn) (trV _ sc') (trV _ pr') (trV _ vl') (trV _ fr')) := h
  rw [e1, show nuV (RM m u a L dp sc fr pr vl ix ex) (3 + i) = .int (u.s + i) from nu_step hi, show nuV (RM m u a L dp sc fr pr vl ix ex) (16 + j) = .int (u.c + j) from nu_call hj] at h
  exact h
theorem dmax {a : EnvA} {L : Nat} {pr vl : V} {gt : Bool} (hg : gt = decide (dp + 1 > u.D)) : trV (RM m u a L dp sc fr pr vl ix ex) (.opq (bif gt then 24 else 22)) = .int (max u.D (dp + 1)) := by
  rw [hg]
  by_cases h : dp + 1 > u.D
  · rw [decide_eq_true h]
    exact congrArg V.int (by omega)
  · rw [decide_eq_false h]
    exact congrArg V.int (by omega)
end
theorem sr_l0 (gt : Bool) (d : Nat) : runO 2 [32] gt d 3 (m1 0 (.ref 6) (.opq 25) (.opq 27) (.opq 28) (.opq 26) :: (envO ++ [oIf (.ref 7) (.opq 32) (.opq 33), oCn (.bool true)])) = some (oMo (.ref 2) (.ref 1) (.opq 2) (.opq (3 + 3)) (.opq (16 + 0)) (.opq (bif gt then 24 else 22)) (.int 0) (.opq 32) (.opq 25) .none (.ref 12) (.opq 26) :: (envO ++ [oIf (.ref 7) (.opq 32) (.opq 33), oCn (.bool true), .list [], oFo (.int 0) (.ref 6) (.opq 25) (.ref 8) (.opq 26) (.opq 24), .list [], .list [.bool true], .list []])) := by cases gt <;> kernel_rfl
theorem sr_l1 (gt : Bool) (d : Nat) : runO 4 [32] gt d 5 (m1 0 (.ref 6) (.opq 25) (.opq 27) (.opq 28) (.opq 26) :: (envO ++ [oSq (.ref 7), .list [(.ref 8), (.ref 9), (.opq 32)], oCn (.int 1), oCn (.int 2)])) = some (oMo (.ref 2) (.ref 1) (.opq 2) (.opq (3 + 5)) (.opq (16 + 0)) (.opq (bif gt then 24 else 22)) (.int 0) (.opq 32) (.opq 25) .none (.ref 18) (.opq 26) :: (envO ++ [oSq (.ref 7), .list [.ref 8, .ref 9, .opq 32], oCn (.int 1), oCn (.int 2), .list [.int 0], oFo (.int 3) (.ref 6) (.opq 25) (.ref 10) (.opq 26) (.opq 24), .list [], .list [.int 1], .list [.int 1], oFo (.int 3) (.ref 6) (.opq 25) (.ref 14) (.opq 26) (.opq 24), .list [], .list [.int 2], .list []])) := by cases gt <;> kernel_rfl
theorem sr_l2 (p : Int) (gt : Bool) (d : Nat) : runO 5 [32, 33] gt d 6 (m1 0 (.ref 6) (.opq 25) (.opq 27) (.opq 28) (.opq 26) :: (envO ++ [oCa (.ref 7) (.ref 9), oLa (.opq 32) (.ref 8) (.int (-1)) (.opq 33), .list [.int p], .list [.ref 10], oCn (.int 3)])) = some (oMo (.ref 2) (.ref 1) (.opq 2) (.opq (3 + 6)) (.opq (16 + 1)) (.opq (bif gt then 24 else 22)) (.int 0) (.opq 33) (.ref 24) .none (.ref 26) (.opq 26) :: (envO ++ [oCa (.ref 7) (.ref 9), oLa (.opq 32) (.ref 8) (.int (-1)) (.opq 33), .list [.int p], .list [.ref 10], oCn (.int 3), .list [], oFo (.int 2) (.ref 6) (.opq 25) (.ref 11) (.opq 26) (.opq 24), .list [], oCo (.ref 7) (.opq 25), .list [.ref 14], .list [.ref 14], .list [.ref 14], oFo (.int 2) (.ref 6) (.opq 25) (.ref 17) (.opq 26) (.opq 24), .list [], .list [.int 3], .list [.int 3], .list [.ref 14, .int 3], .list [.int 3], oSo (.opq 25) (.ref 25), .dict [(p, .int 3)], .list []])) := by cases gt <;> kernel_rfl
theorem sr_l3 (p : Int) (gt : Bool) (d : Nat) : runO 4 [32, 33] gt d 1 (m1 0 (.ref 6) (.opq 25) (.opq 27) (.opq 28) (.opq 26) :: (envO ++ [oFx (.ref 7) (.ref 8) (.opq 32), .list [.int p], .list [.ref 9], oLa (.opq 33) (.opq 34) (.int (-1)) (.opq 35)])) = some (oMo (.ref 2) (.ref 1) (.opq 2) (.opq (3 + 1)) (.opq (16 + 0)) (.opq 22) (.int 0) (.opq 32) (.ref 10) .none (.ref 13) (.opq 26) :: (envO ++ [oFx (.ref 7) (.ref 8) (.opq 32), .list [.int p], .list [.ref 9], oLa (.opq 33) (.opq 34) (.int (-1)) (.opq 35), oSo (.opq 25) (.ref 11), .dict [(p, .ref 12)], oCo (.ref 9) (.ref 10), .list []])) := by cases gt <;> kernel_rfl
theorem sr_l4 (p : Int) (gt : Bool) (d : Nat) : runO 8 [32, 33, 34] gt d 12 (m1 0 (.ref 6) (.opq 25) (.opq 27) (.opq 28) (.opq 26) :: (envO ++ [oCa (.ref 7) (.ref 8), oGn (.int 1), .list [.ref 9, .ref 10], oLa (.opq 32) (.ref 11) (.int (-1)) (.ref 12), oLa (.opq 33) (.ref 13) (.int (-1)) (.opq 34), .list [], oCn (.int 5), .list [.int p]])) = some (oMo (.ref 2) (.ref 1) (.opq 2) (.opq (3 + 12)) (.opq (16 + 3)) (.opq (bif gt then 24 else 22)) (.int 0) (.opq 34) (.ref 40) .none (.ref 42) (.opq 26) :: (envO ++ [oCa (.ref 7) (.ref 8), oGn (.int 1), .list [.ref 9, .ref 10], oLa (.opq 32) (.ref 11) (.int (-1)) (.ref 12), oLa (.opq 33) (.ref 13) (.int (-1)) (.opq 34), .list [], oCn (.int 5), .list [.int p], .list [], oFo (.int 2) (.ref 6) (.opq 25) (.ref 14) (.opq 26) (.opq 24), .list [], .list [.ref 4], .list [.ref 4], .list [.ref 4], oFo (.int 2) (.ref 6) (.opq 25) (.ref 19) (.opq 26) (.opq 24), .list [], oCo (.ref 9) (.opq 25), .list [.ref 22], .list [.ref 22], .list [.ref 4, .ref 22], oFo (.int 2) (.ref 6) (.opq 25) (.ref 25) (.opq 26) (.opq 24), .list [], oCo (.ref 10) (.opq 25), .list [.ref 28], .list [.ref 28], .list [.ref 4, .ref 22, .ref 28], .list [.ref 22, .ref 28], .list [.ref 28], oFo (.int 5) .none .none (.ref 33) (.opq 26) (.opq 24), .list [], oSo (.opq 25) (.ref 37), .dict [], .list [], .list [.int 5], oSo (.opq 25) (.ref 41), .dict [(p, .int 5)], .list []])) := by cases gt <;> kernel_rfl
theorem sr_l5 (p : Int) (gt : Bool) (d : Nat) : runO 5 [32, 33] gt d 7 (m1 0 (.ref 6) (.opq 25) (.opq 27) (.opq 28) (.opq 26) :: (envO ++ [oCa (.ref 7) (.ref 8), oGn (.int 2), .list [.ref 9], oLa (.opq 32) (.ref 10) (.int (-1)) (.opq 33), .list [.int p]])) = some (oMo (.ref 2) (.ref 1) (.opq 2) (.opq (3 + 7)) (.opq (16 + 2)) (.opq (bif gt then 24 else 22)) (.int 0) (.opq 33) (.ref 26) .none (.ref 28) (.opq 26) :: (envO ++ [oCa (.ref 7) (.ref 8), oGn (.int 2), .list [.ref 9], oLa (.opq 32) (.ref 10) (.int (-1)) (.opq 33), .list [.int p], .list [], oFo (.int 2) (.ref 6) (.opq 25) (.ref 11) (.opq 26) (.opq 24), .list [], .list [.ref 5], .list [.ref 5], .list [.ref 5], oFo (.int 2) (.ref 6) (.opq 25) (.ref 16) (.opq 26) (.opq 24), .list [], oCo (.ref 9) (.opq 25), .list [.ref 19], .list [.ref 19], .list [.ref 5, .ref 19], .list [.ref 19], oKt (.opq 26), .list [.ref 24], oSo (.opq 25) (.ref 27), .dict [(p, .ref 24)], .list []])) := by cases gt <;> kernel_rfl
theorem sr_w0 (gt : Bool) (d : Nat) : runO 3 [32, 35] gt d 3 (m1 0 (.ref 6) (.opq 25) (.opq 27) (.opq 28) (.opq 26) :: (envO ++ [oCa (.ref 7) (.ref 8), oLa (.opq 32) (.opq 33) (.int (-1)) (.opq 34), .list [.opq 35]])) = some (oMo (.ref 2) (.ref 1) (.opq 2) (.opq (3 + 3)) (.opq (16 + 0)) (.opq (bif gt then 24 else 22)) (.int 0) (.opq 35) (.opq 25) .none (.ref 17) (.ref 16) :: (envO ++ [oCa (.ref 7) (.ref 8), oLa (.opq 32) (.opq 33) (.int (-1)) (.opq 34), .list [.opq 35], .list [], oFo (.int 2) (.ref 6) (.opq 25) (.ref 9) (.opq 26) (.opq 24), .list [], oCo (.ref 7) (.opq 25), .list [.ref 12], .list [.ref 12], .list [.ref 12], oFo (.int 2) (.ref 6) (.opq 25) (.ref 15) (.opq 26) (.opq 24), .list []])) := by cases gt <;> kernel_rfl
theorem sr_w1 (gt : Bool) (d : Nat) : runO 2 [32] gt d 1 (m1 0 (.ref 6) (.opq 25) (.opq 27) (.opq 28) (.opq 26) :: (envO ++ [oSq (.ref 7), .list [.opq 32, .opq 33]])) = some (oMo (.ref 2) (.ref 1) (.opq 2) (.opq (3 + 1)) (.opq (16 + 0)) (.opq (bif gt then 24 else 22)) (.int 0) (.opq 32) (.opq 25) .none (.ref 10) (.ref 9) :: (envO ++ [oSq (.ref 7), .list [.opq 32, .opq 33], .list [.int 0], oFo (.int 3) (.ref 6) (.opq 25) (.ref 8) (.opq 26) (.opq 24), .list []])) := by cases gt <;> kernel_rfl
theorem sr_w2 (gt : Bool) (d : Nat) : runO 1 [32] gt d 1 (m1 0 (.ref 6) (.opq 25) (.opq 27) (.opq 28) (.opq 26) :: (envO ++ [oIf (.opq 32) (.opq 33) (.opq 34)])) = some (oMo (.ref 2) (.ref 1) (.opq 2) (.opq (3 + 1)) (.opq (16 + 0)) (.opq (bif gt then 24 else 22)) (.int 0) (.opq 32) (.opq 25) .none (.ref 9) (.ref 8) :: (envO ++ [oIf (.opq 32) (.opq 33) (.opq 34), .list [], oFo (.int 0) (.ref 6) (.opq 25) (.ref 7) (.opq 26) (.opq 24), .list []])) := by cases gt <;> kernel_rfl
theorem sr_w3 (gt : Bool) (d : Nat) : runO 4 [32, 35] gt d 5 (m1 0 (.ref 6) (.opq 25) (.opq 27) (.opq 28) (.opq 26) :: (envO ++ [oCa (.ref 7) (.ref 8), oLa (.opq 32) (.opq 33) (.int (-1)) (.opq 34), .list [.ref 9, .opq 35], oCn (.int 8)])) = some (oMo (.ref 2) (.ref 1) (.opq 2) (.opq (3 + 5)) (.opq (16 + 0)) (.opq (bif gt then 24 else 22)) (.int 0) (.opq 35) (.opq 25) .none (.ref 23) (.ref 22) :: (envO ++ [oCa (.ref 7) (.ref 8), oLa (.opq 32) (.opq 33) (.int (-1)) (.opq 34), .list [.ref 9, .opq 35], oCn (.int 8), .list [], oFo (.int 2) (.ref 6) (.opq 25) (.ref 10) (.opq 26) (.opq 24), .list [], oCo (.ref 7) (.opq 25), .list [.ref 13], .list [.ref 13], .list [.ref 13], oFo (.int 2) (.ref 6) (.opq 25) (.ref 16) (.opq 26) (.opq 24), .list [], .list [.int 8], .list [.int 8], .list [.ref 13, .int 8], oFo (.int 2) (.ref 6) (.opq 25) (.ref 21) (.opq 26) (.opq 24), .list []])) := by cases gt <;> kernel_rfl
theorem sr_p0 (p : Int) (gt : Bool) (d : Nat) : runO 8 [34, 38] gt d 2 (m1 2 (.opq 32) (.opq 33) (.opq 27) (.ref 6) (.ref 7) :: (envO ++ [.list [.opq 34], oFo (.int 2) (.ref 8) (.opq 25) (.ref 10) (.opq 26) (.opq 24), oCa (.opq 35) (.ref 9), .list [.opq 36], .list [.ref 11], oCo (.ref 12) (.opq 25), oLa (.opq 37) (.ref 13) (.int (-1)) (.opq 38), .list [.int p]])) = some (oMo (.ref 2) (.ref 1) (.opq 2) (.opq (3 + 2)) (.opq (16 + 1)) (.opq 22) (.int 0) (.opq 38) (.ref 17) .none (.ref 19) (.opq 26) :: (envO ++ [.list [.opq 34], oFo (.int 2) (.ref 8) (.opq 25) (.ref 10) (.opq 26) (.opq 24), oCa (.opq 35) (.ref 9), .list [.opq 36], .list [.ref 11], oCo (.ref 12) (.opq 25), oLa (.opq 37) (.ref 13) (.int (-1)) (.opq 38), .list [.int p], .list [.opq 34], .list [.ref 11, .opq 34], .list [.opq 34], oSo (.opq 25) (.ref 18), .dict [(p, .opq 34)], .list []])) := by cases gt <;> kernel_rfl
theorem sr_p1 (gt : Bool) (d : Nat) : runO 6 [34] gt d 2 (m1 2 (.opq 32) (.opq 33) (.opq 27) (.ref 6) (.ref 7) :: (envO ++ [.list [.opq 34], oFo (.int 3) (.ref 8) (.opq 25) (.ref 10) (.opq 26) (.opq 24), oSq (.ref 9), .list [.opq 35, .ref 11], .list [.int 0], oCn (.int 6)])) = some (oMo (.ref 2) (.ref 1) (.opq 2) (.opq (3 + 2)) (.opq (16 + 0)) (.opq 22) (.int 2) .none .none .none (.ref 13) (.opq 26) :: (envO ++ [.list [.opq 34], oFo (.int 3) (.ref 8) (.opq 25) (.ref 10) (.opq 26) (.opq 24), oSq (.ref 9), .list [.opq 35, .ref 11], .list [.int 0], oCn (.int 6), .list [], .list [.int 6]])) := by cases gt <;> kernel_rfl
theorem sr_p2f (gt : Bool) (d : Nat) : runO 5 [] gt d 2 (m1 2 (.opq 32) (.opq 33) (.opq 27) (.ref 6) (.ref 7) :: (envO ++ [.list [.bool false], oFo (.int 0) (.ref 8) (.opq 25) (.opq 35) (.opq 26) (.opq 24), oIf (.opq 34) (.ref 9) (.ref 10), oCn (.int 7), oCn (.bool false)])) = some (oMo (.ref 2) (.ref 1) (.opq 2) (.opq (3 + 2)) (.opq (16 + 0)) (.opq 22) (.int 2) .none .none .none (.ref 12) (.opq 26) :: (envO ++ [.list [.bool false], oFo (.int 0) (.ref 8) (.opq 25) (.opq 35) (.opq 26) (.opq 24), oIf (.opq 34) (.ref 9) (.ref 10), oCn (.int 7), oCn (.bool false), .list [], .list [.bool false]])) := by cases gt <;> kernel_rfl
theorem sr_p2i (i : Int) (gt : Bool) (d : Nat) : runO 5 [] gt d 2 (m1 2 (.opq 32) (.opq 33) (.opq 27) (.ref 6) (.ref 7) :: (envO ++ [.list [.int i], oFo (.int 0) (.ref 8) (.opq 25) (.opq 35) (.opq 26) (.opq 24), oIf (.opq 34) (.ref 9) (.ref 10), oCn (.int 7), oCn (.bool false)])) = some (oMo (.ref 2) (.ref 1) (.opq 2) (.opq (3 + 2)) (.opq (16 + 0)) (.opq 22) (.int 2) .none .none .none (.ref 12) (.opq 26) :: (envO ++ [.list [.int i], oFo (.int 0) (.ref 8) (.opq 25) (.opq 35) (.opq 26) (.opq 24), oIf (.opq 34) (.ref 9) (.ref 10), oCn (.int 7), oCn (.bool false), .list [], .list [.int 7]])) := by cases gt <;> kernel_rfl
theorem sr_p3 (p p' : Int) (gt : Bool) (d : Nat) : runO 8 [34, 39] gt d 2 (m1 2 (.opq 32) (.opq 33) (.opq 27) (.ref 6) (.ref 7) :: (envO ++ [.list [.opq 34], oFo (.int 2) (.ref 8) (.opq 25) (.ref 10) (.opq 26) (.opq 24), oCa (.opq 35) (.ref 9), .list [.opq 36, .opq 37], .list [.ref 11, .int 8], oCo (.ref 12) (.opq 25), oLa (.opq 38) (.ref 13) (.int (-1)) (.opq 39), .list [.int p', .int p]])) = some (oMo (.ref 2) (.ref 1) (.opq 2) (.opq (3 + 2)) (.opq (16 + 1)) (.opq 22) (.int 0) (.opq 39) (.ref 17) .none (.ref 19) (.opq 26) :: (envO ++ [.list [.opq 34], oFo (.int 2) (.ref 8) (.opq 25) (.ref 10) (.opq 26) (.opq 24), oCa (.opq 35) (.ref 9), .list [.opq 36, .opq 37], .list [.ref 11, .int 8], oCo (.ref 12) (.opq 25), oLa (.opq 38) (.ref 13) (.int (-1)) (.opq 39), .list [.int p', .int p], .list [.opq 34], .list [.ref 11, .int 8, .opq 34], .list [.int 8, .opq 34], oSo (.opq 25) (.ref 18), .dict [(p, .opq 34), (p', .int 8)], .list []])) := by cases gt <;> kernel_rfl
inductive Fnd (σ : H) (k : Int) : V → Nat → Nat → Prop where
  | here {s ds : Nat} {o : V} {es : List (Int × V)} : at? σ s = some (oSo o (.ref ds)) → at? σ ds = some (.dict es) → (lkI es k).isSome = true → Fnd σ k (.ref s) s 0
  | up {s ds s' n : Nat} {o : V} {es : List (Int × V)} : at? σ s = some (oSo o (.ref ds)) → at? σ ds = some (.dict es) → (lkI es k).isSome = false → okV cfg.T o = true → Fnd σ k o s' n → Fnd σ k (.ref s) s' (n + 1)
noncomputable def scT : ME := .cmp CmpOp.IsNot (.nm 30) (.cst .none)
noncomputable def scI : ME := .cmp CmpOp.In (.nm 12) (.attr (.nm 30) 27)
noncomputable def scB : List MS := [.ifS scI [.ret (.nm 30)] [], .asgN 30 (.attr (.nm 30) 28)]
section
variable {cf : CF} {σ : H} {k : Int} {s ds : Nat} {o : V} {es : List (Int × V)} {l : Loc} (n : Nat)
theorem so_vals (h : at? σ s = some (oSo o (.ref ds))) : getA cfg.T (.ref s) 27 σ = some (.ref ds) := by
  show (at? σ s).bind (getO cfg.T 27) = _
  rw [h]; rfl
theorem so_out (h : at? σ s = some (oSo o (.ref ds))) (ho : okV cfg.T o = true) : getA cfg.T (.ref s) 28 σ = some o := by
  show (at? σ s).bind (getO cfg.T 28) = _
  rw [h]
  show gd (okV cfg.T o) _ = _
  rw [ho]; rfl
theorem scT_eq (hl : lk l 30 = some (.ref s)) : evT cfg cf (n + 3) l scT σ = some (true, σ) := by
  unfold scT
  rw [evT_cmp, evE_nm, hl]; rfl
theorem scI_eq (hl : lk l 30 = some (.ref s)) (hk : lk l 12 = some (.int k)) (h1 : at? σ s = some (oSo o (.ref ds))) (h2 : at? σ ds = some (.dict es)) : evT cfg cf (n + 4) l scI σ = some ((lkI es k).isSome, σ) := by
  unfold scI
  rw [evT_cmp, evE_nm, hk]
  show (evE cfg cf (n + 2 + 1) l (.attr (.nm 30) 27) σ).bind _ = _
  rw [evE_attr, evE_nm, hl]
  show ((getA cfg.T (.ref s) 27 σ).map _).bind _ = _
  rw [so_vals h1]
  show ((((at? σ ds).bind fun o => (dictO o).map (·.1)).map _).map _) = _
  rw [h2]; rfl
theorem scB_here (hl : lk l 30 = some (.ref s)) (ht : evT cfg cf (n + 4) l scI σ = some (true, σ)) : exB cfg cf (n + 6) l scB σ = some (.ret (.ref s), l, σ) := by
  unfold scB
  rw [exB_cons, show exS cfg cf (n + 5) l (.ifS scI [.ret (.nm 30)] []) σ = (evT cfg cf (n + 4) l scI σ).bind fun p => exB cfg cf (n + 4) l (bif p.1 then [.ret (.nm 30)] else []) p.2 from rfl, ht]
  show seqR _ (exB cfg cf (n + 3 + 1) l [.ret (.nm 30)] σ) = _
  rw [exB_cons, show exS cfg cf (n + 3) l (.ret (.nm 30)) σ = (evE cfg cf (n + 2) l (.nm 30) σ).map fun p => (.ret p.1, l, p.2) from rfl, evE_nm, hl]
  rfl
theorem scB_up (hl : lk l 30 = some (.ref s)) (ht : evT cfg cf (n + 4) l scI σ = some (false, σ)) (h1 : at? σ s = some (oSo o (.ref ds))) (ho : okV cfg.T o = true) : exB cfg cf (n + 6) l scB σ = some (.next, (30, o) :: l, σ) := by
  unfold scB
  rw [exB_cons, show exS cfg cf (n + 5) l (.ifS scI [.ret (.nm 30)] []) σ = (evT cfg cf (n + 4) l scI σ).bind fun p => exB cfg cf (n + 4) l (bif p.1 then [.ret (.nm 30)] else []) p.2 from rfl, ht]
  show exB cfg cf (n + 4 + 1) l [.asgN 30 (.attr (.nm 30) 28)] σ = _
  rw [exB_cons, show exS cfg cf (n + 4) l (.asgN 30 (.attr (.nm 30) 28)) σ = (evE cfg cf (n + 2 + 1) l (.attr (.nm 30) 28) σ).map fun p => (.next, (30, p.1) :: l, p.2) from rfl, evE_attr, evE_nm, hl]
  show seqR _ (((getA cfg.T (.ref s) 28 σ).map _).map _) = _
  rw [so_out h1 ho]
  rfl
end
theorem scopeLoop {cf : CF} {σ : H} {k : Int} {sc : V} {sF n : Nat} (h : Fnd σ k sc sF n) : ∀ (N : Nat) (l : Loc), n ≤ N → lk l 30 = some sc → lk l 12 = some (.int k) → ∃ l', exS cfg cf (N + 20) l (.whileS scT scB) σ = some (.ret (.ref sF), l', σ) := by
  induction h with
  | @here s ds o es h1 h2 h3 =>
    intro N l _ hl hk
    have t := scI_eq (cf := cf) (N + 13) hl hk h1 h2
    rw [h3] at t
    refine ⟨l, ?_⟩
    rw [exS_while, show N + 19 = N + 16 + 3 from rfl, scT_eq _ hl]
    show loopR (fun l1 σ1 => exS cfg cf (N + 19) l1 (.whileS scT scB) σ1) (exB cfg cf (N + 13 + 6) l scB σ) = _
    rw [scB_here _ hl t]
    rfl
  | @up s ds s' n o es h1 h2 h3 h4 _ ih =>
    intro N l hN hl hk
    obtain ⟨N, rfl⟩ : ∃ M, N = M + 1 := ⟨N - 1, by omega⟩
    have t := scI_eq (cf := cf) (N + 14) hl hk h1 h2
    rw [h3] at t
    obtain ⟨l', hl'⟩ := ih N ((30, o) :: l) (by omega) rfl hk
    refine ⟨l', ?_⟩
    rw [show N + 1 + 20 = N + 20 + 1 from by omega, exS_while, show N + 20 = N + 17 + 3 from rfl, scT_eq _ hl]
    show loopR (fun l1 σ1 => exS cfg cf (N + 20) l1 (.whileS scT scB) σ1) (exB cfg cf (N + 14 + 6) l scB σ) = _
    rw [scB_up _ hl t h1 h4]
    exact hl'
theorem scopeOf_eq {σ : H} {k : Int} {sc : V} {sF n d : Nat} (h : Fnd σ k sc sF n) (hn : n ≤ 90000) : callN cfg (d + 1) (.val 818) [sc, .int k] σ = some (.ref sF, σ) := by
  obtain ⟨l', hl'⟩ := scopeLoop (cf := callN cfg d) h (99998 - 20) [(30, sc), (12, .int k), (29, sc)] (by omega) rfl rfl
  show bodyR (exB cfg (callN cfg d) (99999 + 1) [(12, .int k), (29, sc)] (.asgN 30 (.nm 29) :: [.whileS scT scB, .stop]) σ) = _
  rw [exB_cons]
  show bodyR (exB cfg (callN cfg d) (99998 + 1) [(30, sc), (12, .int k), (29, sc)] (.whileS scT scB :: [.stop]) σ) = _
  rw [exB_cons, show exS cfg (callN cfg d) 99998 [(30, sc), (12, .int k), (29, sc)] (.whileS scT scB) σ = some (.ret (.ref sF), l', σ) from hl']
  rfl
noncomputable def Look (σ : H) (k : Int) (sc v : V) (n : Nat) : Prop := ∃ sF o ds es, Fnd σ k sc sF n ∧ at? σ sF = some (oSo o (.ref ds)) ∧ at? σ ds = some (.dict es) ∧ lkI es k = some v
theorem local_eq {σ : H} {k : Int} {sc v : V} {n d m : Nat} (h : Look σ k sc v n) (hn : n ≤ 90000) (hv : isV cfg.T v (.val 50) = some false) : callN cfg (d + 3) (.val 1017) [.ref m, .int k, sc] σ = some (v, σ) := by
  obtain ⟨sF, o, ds, es, h1, h2, h3, h4⟩ := h
  show bodyR (exB cfg (callN cfg (d + 2)) (99999 + 1) [(29, sc), (12, .int k), (0, .ref m)] f1017.body σ) = _
  have hs := scopeOf_eq (d := d + 1) h1 hn
  have e1 : exS cfg (callN cfg (d + 2)) 99999 [(29, sc), (12, .int k), (0, .ref m)] (.asgN 11 (.sub (.attr (.call (.cst (.val 818)) [.nm 29, .nm 12]) 27) (.nm 12))) σ = some (.next, [(11, v), (29, sc), (12, .int k), (0, .ref m)], σ) := by
    show ((((callN cfg (d + 2) (.val 818) [sc, .int k] σ).bind fun p => (getA cfg.T p.1 27 p.2).map fun u => (u, p.2)).bind fun p => (subV cfg.T p.1 (.int k) p.2).map fun w => (w, p.2)).map fun p => (Fl.next, (11, p.1) :: [(29, sc), (12, .int k), (0, .ref m)], p.2)) = _
    rw [hs]
    show ((((getA cfg.T (.ref sF) 27 σ).map _).bind _).map _) = _
    rw [so_vals h2]
    show ((((at? σ ds).bind (subO k)).map _).map _) = _
    rw [h3]
    show (((lkI es k).map _).map _) = _
    rw [h4]; rfl
  unfold f1017
  show bodyR (exB cfg (callN cfg (d + 2)) (99999 + 1) [(29, sc), (12, .int k), (0, .ref m)] (_ :: _) σ) = _
  rw [exB_cons, e1]
  have e2 : exS cfg (callN cfg (d + 2)) 99998 [(11, v), (29, sc), (12, .int k), (0, .ref m)] (.ifS (.and (.cmp CmpOp.Is (.nm 11) (.cst (.val 50))) (.cmp CmpOp.In (.nm 12) (.attr (.nm 0) 48))) [.stop] []) σ = some (.next, [(11, v), (29, sc), (12, .int k), (0, .ref m)], σ) := by
    have t : evT cfg (callN cfg (d + 2)) (99995 + 1) [(11, v), (29, sc), (12, .int k), (0, .ref m)] (.cmp CmpOp.Is (.nm 11) (.cst (.val 50))) σ = some (false, σ) := by
      rw [evT_cmp, show evE cfg (callN cfg (d + 2)) 99995 [(11, v), (29, sc), (12, .int k), (0, .ref m)] (.nm 11) σ = some (v, σ) from rfl]
      show (isV cfg.T v (.val 50)).map (fun t => (t, σ)) = _
      rw [hv]; rfl
    rw [show exS cfg (callN cfg (d + 2)) 99998 [(11, v), (29, sc), (12, .int k), (0, .ref m)] (.ifS (.and (.cmp CmpOp.Is (.nm 11) (.cst (.val 50))) (.cmp CmpOp.In (.nm 12) (.attr (.nm 0) 48))) [.stop] []) σ = ((evT cfg (callN cfg (d + 2)) (99995 + 1) [(11, v), (29, sc), (12, .int k), (0, .ref m)] (.cmp CmpOp.Is (.nm 11) (.cst (.val 50))) σ).bind fun p => bif p.1 then evT cfg (callN cfg (d + 2)) 99996 [(11, v), (29, sc), (12, .int k), (0, .ref m)] (.cmp CmpOp.In (.nm 12) (.attr (.nm 0) 48)) p.2 else some p).bind fun p => exB cfg (callN cfg (d + 2)) 99997 [(11, v), (29, sc), (12, .int k), (0, .ref m)] (bif p.1 then [.stop] else []) p.2 from rfl, t]
    rfl
  show bodyR (exB cfg (callN cfg (d + 2)) (99998 + 1) [(11, v), (29, sc), (12, .int k), (0, .ref m)] (_ :: [.ret (.nm 11)]) σ) = _
  rw [exB_cons, e2]
  rfl
theorem Fnd.mono {σ σ' : H} {m : Nat} (hm : IsM σ m) (E : Ext m σ σ') {k : Int} {sc : V} {sF n : Nat} (h : Fnd σ k sc sF n) : Fnd σ' k sc sF n := by
  induction h with
  | here h1 h2 h3 => exact .here (hm.keep E h1 rfl) (hm.keep E h2 rfl) h3
  | up h1 h2 h3 h4 _ ih => exact .up (hm.keep E h1 rfl) (hm.keep E h2 rfl) h3 h4 ih
theorem Look.mono {σ σ' : H} {m : Nat} (hm : IsM σ m) (E : Ext m σ σ') {k : Int} {sc v : V} {n : Nat} (h : Look σ k sc v n) : Look σ' k sc v n := by
  obtain ⟨sF, o, ds, es, h1, h2, h3, h4⟩ := h
  exact ⟨sF, o, ds, es, h1.mono hm E, hm.keep E h2 rfl, hm.keep E h3 rfl, h4⟩
theorem Look.here {σ : H} {k : Int} {v o : V} {s ds : Nat} {es : List (Int × V)} (h1 : at? σ s = some (oSo o (.ref ds))) (h2 : at? σ ds = some (.dict es)) (h : lkI es k = some v) : Look σ k (.ref s) v 0 := ⟨s, o, ds, es, .here h1 h2 (by rw [h]; rfl), h1, h2, h⟩
theorem Look.up {σ : H} {k : Int} {v o : V} {s ds n : Nat} {es : List (Int × V)} (h1 : at? σ s = some (oSo o (.ref ds))) (h2 : at? σ ds = some (.dict es)) (h : lkI es k = none) (ho : okV cfg.T o = true) (g : Look σ k o v n) : Look σ k (.ref s) v (n + 1) := by
  obtain ⟨sF, o', d', es', g1, g2, g3, g4⟩ := g
  exact ⟨sF, o', d', es', .up h1 h2 (by rw [h]; rfl) ho g1, g2, g3, g4⟩
theorem lkI_here (k : Int) (v : V) (es : List (Int × V)) : lkI ((k, v) :: es) k = some v := if_pos rfl
theorem lkI_ne {k p : Int} {v : V} {es : List (Int × V)} (h : p ≠ k) : lkI ((p, v) :: es) k = lkI es k := if_neg h
noncomputable def SubN (N : Nat) (σ : H) (sc : V) (σ' : H) (sc' : V) : Prop := ∀ k0 v i, 1000 ≤ k0 → Look σ k0 sc v i → ∃ i', i' ≤ i + N ∧ Look σ' k0 sc' v i'
theorem SubN.same {σ σ' : H} {m : Nat} {sc : V} (hM : IsM σ m) (E : Ext m σ σ') : SubN 1 σ sc σ' sc := fun k0 v i _ h => ⟨i, Nat.le_succ i, h.mono hM E⟩
theorem SubN.inner {σ σ' : H} {m : Nat} {sc : V} {s1 ds : Nat} {p : Int} {w : V} (hM : IsM σ m) (E : Ext m σ σ') (hb : okV cfg.T sc = true) (h1 : at? σ' s1 = some (oSo sc (.ref ds))) (h2 : at? σ' ds = some (.dict [(p, w)])) (hp : p < 1000) : SubN 1 σ sc σ' (.ref s1) := fun k0 v i hk h =>
  ⟨i + 1, Nat.le_refl _, (h.mono hM E).up h1 h2 (lkI_ne (by omega)) hb⟩
theorem SubN.trans {N M : Nat} {σ σ' σ'' : H} {a b c : V} (h1 : SubN N σ a σ' b) (h2 : SubN M σ' b σ'' c) : SubN (N + M) σ a σ'' c := by
  intro k0 v i hk h
  obtain ⟨i1, g1, g2⟩ := h1 k0 v i hk h
  obtain ⟨i2, g3, g4⟩ := h2 k0 v i1 hk g2
  exact ⟨i2, by omega, g4⟩
noncomputable def arg3 {α : Type} (l : List α) : Option {p : α × α × α // l = [p.1, p.2.1, p.2.2]} := match l with
  | [a, b, c] => some ⟨(a, b, c), rfl⟩
  | _ => none
noncomputable def isR0 : V → Bool
  | .ref i => Nat.beq i 0
  | _ => false
theorem isR0_eq {v : V} (h : isR0 v = true) : v = .ref 0 := by
  cases v with
  | ref i => exact congrArg V.ref (nbeq.mp h)
  | _ => cases h
noncomputable def ovL : CF := fun f as s => (valV f).bind fun a => (arg3 as).bind fun p => gd (Nat.beq a.1 1017 && (isR0 p.1.1 && (isOpq 33 p.1.2.1 && isOpq 25 p.1.2.2))) (some (.opq 32, s))
theorem sr_local (gt : Bool) (d : Nat) : runV ovL 1 [32, 33] gt d 1 (m1 0 (.ref 6) (.opq 25) (.opq 27) (.opq 28) (.opq 26) :: (envO ++ [oLn (.opq 33)])) = some (oMo (.ref 2) (.ref 1) (.opq 2) (.opq (3 + 1)) (.opq (16 + 0)) (.opq 22) (.int 2) .none .none .none (.ref 7) (.opq 26) :: (envO ++ [oLn (.opq 33), .list [.opq 32]])) := by cases gt <;> kernel_rfl
section
variable {σ : H} {m : Nat} {u : Nums} {n : Nat} {sc fr : V} {dp : Int} {Φ : H → Prop} {k : Nat}
theorem run_local {k0 : Int} {v : V} {i : Nat} (h : LK σ m u n sc fr dp) (hs : u.s + 12 ≤ 5000) (hn : at? σ n = some (oLn (.int k0))) (hl : Look σ k0 sc v i) (hi : i ≤ 90000) (hv : isV cfg.T v (.val 50) = some false) (hok : okV cfg.T v = true) (q : ∀ σ', Ext m σ σ' → GV σ' m (u.up 1 0 u.D) v fr dp → Runs m Φ k σ') : Runs m Φ (k + 1) σ := by
  have M := h.isM
  obtain ⟨pr, vl, st⟩ := h.st
  obtain ⟨a, E⟩ := h.env
  refine run_M (dp := dp) (a := a) (sc := sc) (fr := fr) (pr := pr) (vl := vl) (ix := [n]) (ex := [v, .int k0]) sr_local (fun d => ?_) st E h.fr.ok h.sc hs rfl rfl rfl rfl rfl rfl rfl rfl (Kn.all (l := [oLn (.opq 33)]) ⟨hn, trivial⟩) (OkL.all (l := [32, 33]) ⟨hok, rfl, trivial⟩) fun gt σ' hg H => q σ' H.ext ⟨⟨.none, .none, .none, σ.length, H.st (i := 1) (j := 0) (D' := u.D) (by decide) (by decide) rfl, H.obj 7 _ rfl⟩, M.dep H.ext h.fr, a, M.env H.ext E⟩
  exact fun f as s' r e σ' h' => bsE e fun a ha e => bsE e fun p hp e => gdE e fun hc e => anE hc fun h1 h2 => anE h2 fun h2 h3 => anE h3 fun h3 h4 => by
    obtain ⟨z1, z2, z3⟩ := p
    have g1 : a = 1017 := nbeq.mp h1
    have g2 : z1 = .ref 0 := isR0_eq h2
    have g3 : z2 = .opq 33 := opq_eq h3
    have g4 : z3 = .opq 25 := opq_eq h4
    clear h1 h2 h3 h4 hc
    subst g1 g2 g3 g4
    rw [ha, hp, ← Option.some.inj e]
    exact ⟨_, local_eq (hl.mono M h'.ext) hi hv, rfl, h'⟩
end
noncomputable def Sm (v : V) : Prop := v = .bool false ∨ ∃ i, v = .int i
theorem Sm.ok {v : V} (h : Sm v) : okV cfg.T v = true := by rcases h with rfl | ⟨i, rfl⟩ <;> rfl
theorem Sm.una {v : V} (h : Sm v) : isV cfg.T v (.val 50) = some false := by rcases h with rfl | ⟨i, rfl⟩ <;> rfl
noncomputable def isFls : V → Bool
  | .bool false => true
  | _ => false
noncomputable def g1 (f : Bool × Int) (v : V) : V := bif f.1 then v else bif decide (f.2 = 1) then .int 6 else bif decide (f.2 = 2) then (bif isFls v then .bool false else .int 7) else v
theorem g1_ok (f : Bool × Int) {v : V} (h : Sm v) : Sm (g1 f v) := by
  unfold g1
  cases f.1
  · cases decide (f.2 = 1)
    · cases decide (f.2 = 2)
      · exact h
      · cases isFls v
        · exact .inr ⟨_, rfl⟩
        · exact .inl rfl
    · exact .inr ⟨_, rfl⟩
  · exact h
noncomputable def gF : List (Bool × Int) → V → V
  | [], v => v
  | f :: fs, v => gF fs (g1 f v)
theorem gF_ok (fs : List (Bool × Int)) : ∀ {v : V}, Sm v → Sm (gF fs v) := by
  induction fs with
  | nil => exact fun h => h
  | cons f fs ih => exact fun h => ih (g1_ok f h)
noncomputable def Pend (σ : H) (m : Nat) (g : V → V) (c : Nat) (fr' : V) (dp' : Int) (fr : V) (dp : Int) : Prop :=
  ∀ (σ1 : H) (u : Nums) (v : V) (Φ : H → Prop) (k : Nat), Ext m σ σ1 → Sm v → GV σ1 m u v fr' dp' → u.s + c ≤ 5000 → (∀ σ2 u2, Ext m σ1 σ2 → u2.s ≤ u.s + c → u2.D = u.D → GV σ2 m u2 (g v) fr dp → Runs m Φ k σ2) → Runs m Φ (k + c) σ1
theorem Pend.id (σ : H) (m : Nat) (fr : V) (dp : Int) : Pend σ m (fun v => v) 0 fr dp fr dp := fun σ1 u v Φ k E _ h _ q => q σ1 u (Ext.refl _ _) (Int.le_of_eq (Int.add_zero _).symm) rfl h
theorem Pend.le {σ : H} {m : Nat} {g : V → V} {c c' : Nat} {fr' fr : V} {dp' dp : Int} (h : Pend σ m g c fr' dp' fr dp) (hc : c ≤ c') : Pend σ m g c' fr' dp' fr dp := fun σ1 u v Φ k E o hv hs q =>
  (h σ1 u v Φ k E o hv (by omega) fun σ2 u2 E2 h2 => q σ2 u2 E2 (by omega)).le (Nat.add_le_add_left hc k)
theorem Pend.mono {σ σ' : H} {m : Nat} {g : V → V} {c : Nat} {fr' fr : V} {dp' dp : Int} (h : Pend σ m g c fr' dp' fr dp) (E : Ext m σ σ') : Pend σ' m g c fr' dp' fr dp := fun σ1 u v Φ k E1 => h σ1 u v Φ k (E.trans E1)
theorem Pend.trans {σ σ' : H} {m : Nat} {g g' : V → V} {c c' : Nat} {fr' fr fr0 : V} {dp' dp dp0 : Int} (a : Pend σ m g c fr dp fr0 dp0) (E : Ext m σ σ') (b : Pend σ' m g' c' fr' dp' fr dp) (hg : ∀ v, Sm v → Sm (g' v)) : Pend σ' m (fun v => g (g' v)) (c + c') fr' dp' fr0 dp0 := by
  intro σ1 u v Φ k E1 o hv hs q
  rw [← Nat.add_assoc]
  exact b σ1 u v Φ (k + c) E1 o hv (by omega) fun σ2 u2 E2 s2 d2 h2 => a σ2 u2 _ Φ k (E.trans (E1.trans E2)) (hg v o) h2 (by omega) fun σ3 u3 E3 s3 d3 h3 => q σ3 u3 (E2.trans E3) (by omega) (d3.trans d2) h3
theorem up_le {u : Nums} {i j : Nat} {D : Int} (h : i ≤ 12) : (u.up i j D).s ≤ u.s + 12 := Int.add_le_add_left (Int.ofNat_le.mpr h) u.s
section
variable {σ σ' : H} {m : Nat} {u : Nums} {n : Nat} {sc fr v : V} {dp dp' : Int} {a : EnvA}
theorem LK.of (M : IsM σ m) (X : Ext m σ σ') (E : Env1 σ u.tops u.lib a) {i j : Nat} {D : Int} {sc' fr' pr vl : V} (hs : okV cfg.T sc' = true) (hd : Dep σ' fr' dp') (h : at? σ' m = some (Mo (u.up i j D) 0 (.ref n) sc' pr vl fr')) : LK σ' m (u.up i j D) n sc' fr' dp' := ⟨⟨pr, vl, h⟩, hd, hs, a, M.env X E⟩
theorem GV.of (M : IsM σ m) (X : Ext m σ σ') (E : Env1 σ u.tops u.lib a) {i j vi : Nat} {D : Int} {nd sc' fr' pr : V} (hd : Dep σ' fr' dp') (hv : at? σ' vi = some (.list [v])) (h : at? σ' m = some (Mo (u.up i j D) 2 nd sc' pr (.ref vi) fr')) : GV σ' m (u.up i j D) v fr' dp' := ⟨⟨nd, sc', pr, vi, h, hv⟩, hd, a, M.env X E⟩
theorem CL.of (M : IsM σ m) (X : Ext m σ σ') (E : Env1 σ u.tops u.lib a) {i j vi : Nat} {D : Int} {as : List V} {nd sc' fr' pr : V} (hd : Dep σ' fr' dp') (hv : at? σ' vi = some (.list as)) (h : at? σ' m = some (Mo (u.up i j D) 1 nd sc' pr (.ref vi) fr')) : CL σ' m (u.up i j D) pr as fr' dp' := ⟨⟨nd, sc', vi, h, hv⟩, hd, a, M.env X E⟩
theorem Dep.new {φ : Nat} {k nd sc dn out : V} (h : at? σ φ = some (oFo k nd sc dn out (.int dp))) : Dep σ (.ref φ) dp := .inr ⟨φ, k, nd, sc, dn, out, rfl, h⟩
end
section
variable {σ : H} {m : Nat} {u : Nums} {r : Nat} {sc fr : V} {dp : Int} {Φ : H → Prop} {k : Nat}
noncomputable def FQ (σ : H) (m : Nat) (u : Nums) (sc fr : V) (dp : Int) (b : Nat) (Φ : H → Prop) (k : Nat) (g : V → V) (w D : Int) : Prop := ∀ σ' u' sc' fr', Ext m σ σ' → u'.s ≤ u.s + 12 → u'.D = D → LK σ' m u' b sc' fr' (dp + w) → SubN 1 σ sc σ' sc' → Pend σ' m g 16 fr' (dp + w) fr dp → Runs m Φ k σ'
theorem FQ.last {b : Nat} {D : Int} (q : FQ σ m u sc fr dp b Φ k (fun v => v) 0 D) {σ' : H} {sc' : V} {i j : Nat} (X : Ext m σ σ') (hi : i ≤ 12) (h : LK σ' m (u.up i j D) b sc' fr dp) (s : SubN 1 σ sc σ' sc') : Runs m Φ k σ' := q σ' _ sc' fr X (up_le hi) rfl (by rw [Int.add_zero]; exact h) s (by rw [Int.add_zero]; exact (Pend.id σ' m fr dp).le (Nat.zero_le _))
theorem form_l0 {a b c : Nat} (h : LK σ m u r sc fr dp) (hs : u.s + 12 ≤ 5000) (h1 : at? σ r = some (oIf (.ref a) (.ref b) (.ref c))) (h2 : at? σ a = some (oCn (.bool true))) (q : FQ σ m u sc fr dp b Φ k (fun v => v) 0 (max u.D (dp + 1))) : Runs m Φ (k + 12) σ :=
  (h.run sr_l0 hs [r, a] [.ref b, .ref c] rfl rfl rfl rfl (fun _ _ _ => ⟨h1, h2, trivial⟩) (fun _ _ _ => ⟨rfl, trivial⟩) fun a pr vl gt σ' E hg H X => q.last X (by decide) (.of h.isM X E h.sc (h.isM.dep X h.fr) (H.st (i := 3) (j := 0) (by decide) (by decide) (dmax hg))) (.same h.isM X)).le (Nat.add_le_add_left (by decide) k)
end
section
variable {σ : H} {m : Nat} {u : Nums} {r : Nat} {sc fr : V} {dp : Int} {Φ : H → Prop} {k : Nat}
theorem form_l1 {i x y b : Nat} (h : LK σ m u r sc fr dp) (hs : u.s + 12 ≤ 5000) (h1 : at? σ r = some (oSq (.ref i))) (h2 : at? σ i = some (.list [.ref x, .ref y, .ref b])) (h3 : at? σ x = some (oCn (.int 1))) (h4 : at? σ y = some (oCn (.int 2))) (q : FQ σ m u sc fr dp b Φ k (fun v => v) 0 (max u.D (dp + 1))) : Runs m Φ (k + 12) σ :=
  (h.run sr_l1 hs [r, i, x, y] [.ref b] rfl rfl rfl rfl (fun _ _ _ => ⟨h1, h2, h3, h4, trivial⟩) (fun _ _ _ => ⟨rfl, trivial⟩) fun a pr vl gt σ' E hg H X => q.last X (by decide) (.of h.isM X E h.sc (h.isM.dep X h.fr) (H.st (i := 5) (j := 0) (by decide) (by decide) (dmax hg))) (.same h.isM X)).le (Nat.add_le_add_left (by decide) k)
theorem form_l2 {f ps as c b : Nat} {l p : Int} (h : LK σ m u r sc fr dp) (hs : u.s + 12 ≤ 5000) (h1 : at? σ r = some (oCa (.ref f) (.ref as))) (h2 : at? σ f = some (oLa (.int l) (.ref ps) (.int (-1)) (.ref b))) (h3 : at? σ ps = some (.list [.int p])) (h4 : at? σ as = some (.list [.ref c])) (h5 : at? σ c = some (oCn (.int 3))) (hp : p < 1000) (q : FQ σ m u sc fr dp b Φ k (fun v => v) 0 (max u.D (dp + 1))) : Runs m Φ (k + 12) σ :=
  (h.run (sr_l2 p) hs [r, f, ps, as, c] [.int l, .ref b] rfl rfl rfl rfl (fun _ _ _ => ⟨h1, h2, h3, h4, h5, trivial⟩) (fun _ _ _ => ⟨rfl, rfl, trivial⟩) fun a pr vl gt σ' E hg H X => q.last X (by decide) (.of h.isM X E rfl (h.isM.dep X h.fr) (H.st (i := 6) (j := 1) (by decide) (by decide) (dmax hg))) (.inner h.isM X h.sc (H.obj 24 _ rfl) (H.obj 25 _ rfl) hp)).le (Nat.add_le_add_left (by decide) k)
theorem form_l3 {nums lams la ps bd b : Nat} {l p : Int} (h : LK σ m u r sc fr dp) (hD : dp ≤ u.D) (hs : u.s + 12 ≤ 5000) (h1 : at? σ r = some (oFx (.ref nums) (.ref lams) (.ref b))) (h2 : at? σ nums = some (.list [.int p])) (h3 : at? σ lams = some (.list [.ref la])) (h4 : at? σ la = some (oLa (.int l) (.ref ps) (.int (-1)) (.ref bd))) (hp : p < 1000) (q : FQ σ m u sc fr dp b Φ k (fun v => v) 0 (max u.D (dp + 0))) : Runs m Φ (k + 12) σ := by
  rw [show max u.D (dp + 0) = u.D by omega] at q
  exact (h.run (sr_l3 p) hs [r, nums, lams, la] [.ref b, .int l, .ref ps, .ref bd] rfl rfl rfl rfl (fun _ _ _ => ⟨h1, h2, h3, h4, trivial⟩) (fun _ _ _ => ⟨rfl, rfl, trivial⟩) fun a pr vl gt σ' E hg H X => q.last X (by decide) (.of h.isM X E rfl (h.isM.dep X h.fr) (H.st (i := 1) (j := 0) (by decide) (by decide) rfl)) (.inner h.isM X h.sc (H.obj 10 _ rfl) (H.obj 11 _ rfl) hp)).le (Nat.add_le_add_left (by decide) k)
theorem form_l4 {g as f ps1 b1 t ps2 b : Nat} {l1 l2 p : Int} (h : LK σ m u r sc fr dp) (hs : u.s + 12 ≤ 5000) (h1 : at? σ r = some (oCa (.ref g) (.ref as))) (h2 : at? σ g = some (oGn (.int 1))) (h3 : at? σ as = some (.list [.ref f, .ref t])) (h4 : at? σ f = some (oLa (.int l1) (.ref ps1) (.int (-1)) (.ref b1))) (h5 : at? σ ps1 = some (.list [])) (h6 : at? σ b1 = some (oCn (.int 5))) (h7 : at? σ t = some (oLa (.int l2) (.ref ps2) (.int (-1)) (.ref b))) (h8 : at? σ ps2 = some (.list [.int p])) (hp : p < 1000) (q : FQ σ m u sc fr dp b Φ k (fun v => v) 0 (max u.D (dp + 1))) : Runs m Φ (k + 12) σ :=
  h.run (sr_l4 p) hs [r, g, as, f, t, ps1, b1, ps2] [.int l1, .int l2, .ref b] rfl rfl rfl rfl (fun _ _ _ => ⟨h1, h2, h3, h4, h7, h5, h6, h8, trivial⟩) (fun _ _ _ => ⟨rfl, rfl, rfl, trivial⟩) fun a pr vl gt σ' E hg H X => q.last X (by decide) (.of h.isM X E rfl (h.isM.dep X h.fr) (H.st (i := 12) (j := 3) (by decide) (by decide) (dmax hg))) (.inner h.isM X h.sc (H.obj 40 _ rfl) (H.obj 41 _ rfl) hp)
theorem form_l5 {g as t ps b : Nat} {l p : Int} (h : LK σ m u r sc fr dp) (hs : u.s + 12 ≤ 5000) (h1 : at? σ r = some (oCa (.ref g) (.ref as))) (h2 : at? σ g = some (oGn (.int 2))) (h3 : at? σ as = some (.list [.ref t])) (h4 : at? σ t = some (oLa (.int l) (.ref ps) (.int (-1)) (.ref b))) (h5 : at? σ ps = some (.list [.int p])) (hp : p < 1000) (q : FQ σ m u sc fr dp b Φ k (fun v => v) 0 (max u.D (dp + 1))) : Runs m Φ (k + 12) σ :=
  (h.run (sr_l5 p) hs [r, g, as, t, ps] [.int l, .ref b] rfl rfl rfl rfl (fun _ _ _ => ⟨h1, h2, h3, h4, h5, trivial⟩) (fun _ _ _ => ⟨rfl, rfl, trivial⟩) fun a pr vl gt σ' E hg H X => q.last X (by decide) (.of h.isM X E rfl (h.isM.dep X h.fr) (H.st (i := 7) (j := 2) (by decide) (by decide) (dmax hg))) (.inner h.isM X h.sc (H.obj 26 _ rfl) (H.obj 27 _ rfl) hp)).le (Nat.add_le_add_left (by decide) k)
theorem pend0 {f as ps bd b φ di cl : Nat} {l p : Int} (M : IsM σ m) (hd : Dep σ fr dp) (hsc : okV cfg.T sc = true) (h1 : at? σ r = some (oCa (.ref f) (.ref as))) (h2 : at? σ f = some (oLa (.int l) (.ref ps) (.int (-1)) (.ref bd))) (h3 : at? σ ps = some (.list [.int p])) (h4 : at? σ bd = some (oLn (.int p))) (h5 : at? σ as = some (.list [.ref b])) (f1 : at? σ φ = some (oFo (.int 2) (.ref r) sc (.ref di) fr (.int (dp + 1)))) (f2 : at? σ di = some (.list [.ref cl])) (f3 : at? σ cl = some (oCo (.ref f) sc)) : Pend σ m (fun v => v) 16 (.ref φ) (dp + 1) fr dp := fun σ1 u v Φ k E o hg hs q =>
  (hg.run (n := k + 1) (sr_p0 p) rfl (M.keep E f1 rfl) (M.dep E hd) hsc (by omega) [r, as, di, cl, f, ps] [v, .ref f, .ref b, .int l, .ref bd] rfl rfl rfl (fun _ _ _ _ _ => ⟨rfl, rfl, rfl, rfl⟩) (fun _ _ _ _ _ => ⟨M.keep E h1 rfl, M.keep E h5 rfl, M.keep E f2 rfl, M.keep E f3 rfl, M.keep E h2 rfl, M.keep E h3 rfl, trivial⟩) (fun _ _ _ _ _ => ⟨o.ok, rfl, trivial⟩) fun a pr vi nd1 sc1 gt σ' En _ H X =>
    have Y := E.trans X
    run_local (k0 := p) (v := v) (i := 0) (LK.of hg.isM X En (n := bd) rfl (M.dep Y hd) (H.st (i := 2) (j := 1) (D' := u.D) (by decide) (by decide) rfl)) (by show u.s + (2 : Nat) + 12 ≤ 5000; omega) (M.keep Y h4 rfl) (.here (H.obj 17 _ rfl) (H.obj 18 _ rfl) (lkI_here _ _ _)) (by decide) o.una o.ok fun σ2 Z g2 => q σ2 ((u.up 2 1 u.D).up 1 0 u.D) (X.trans Z) (by show u.s + (2 : Nat) + (1 : Nat) ≤ _; omega) rfl g2).le (Nat.add_le_add_left (n := 1 + 2) (by decide) k)
end
section
variable {σ : H} {m : Nat} {u : Nums} {r : Nat} {sc fr : V} {dp : Int} {Φ : H → Prop} {k : Nat}
theorem pend1 {i c b φ di : Nat} (M : IsM σ m) (hd : Dep σ fr dp) (hsc : okV cfg.T sc = true) (h1 : at? σ r = some (oSq (.ref i))) (h2 : at? σ i = some (.list [.ref b, .ref c])) (h3 : at? σ c = some (oCn (.int 6))) (f1 : at? σ φ = some (oFo (.int 3) (.ref r) sc (.ref di) fr (.int (dp + 1)))) (f2 : at? σ di = some (.list [.int 0])) : Pend σ m (g1 (false, 1)) 16 (.ref φ) (dp + 1) fr dp := fun σ1 u v Φ k E o hg hs q =>
  (hg.run (n := k) sr_p1 rfl (M.keep E f1 rfl) (M.dep E hd) hsc (by omega) [r, i, di, c] [v, .ref b] rfl rfl rfl (fun _ _ _ _ _ => ⟨rfl, rfl, rfl, rfl⟩) (fun _ _ _ _ _ => ⟨M.keep E h1 rfl, M.keep E h2 rfl, M.keep E f2 rfl, M.keep E h3 rfl, trivial⟩) (fun _ _ _ _ _ => ⟨o.ok, trivial⟩) fun a pr vi nd1 sc1 gt σ' En _ H X =>
    q σ' (u.up 2 0 u.D) X (by show u.s + (2 : Nat) ≤ _; omega) rfl (.of hg.isM X En (M.dep (E.trans X) hd) (H.obj 13 _ rfl) (H.st (i := 2) (j := 0) (D' := u.D) (by decide) (by decide) rfl))).le (Nat.add_le_add_left (by decide) k)
theorem pend2 {x y b φ : Nat} {dn : V} (M : IsM σ m) (hd : Dep σ fr dp) (hsc : okV cfg.T sc = true) (h1 : at? σ r = some (oIf (.ref b) (.ref x) (.ref y))) (h2 : at? σ x = some (oCn (.int 7))) (h3 : at? σ y = some (oCn (.bool false))) (f1 : at? σ φ = some (oFo (.int 0) (.ref r) sc dn fr (.int (dp + 1)))) : Pend σ m (g1 (false, 2)) 16 (.ref φ) (dp + 1) fr dp := fun σ1 u v Φ k E o hg hs q => by
  rcases o with o | ⟨i, o⟩
  · subst o
    exact (hg.run (n := k) sr_p2f rfl (M.keep E f1 rfl) (M.dep E hd) hsc (by omega) [r, x, y] [.ref b, dn] rfl rfl rfl (fun _ _ _ _ _ => ⟨rfl, rfl, rfl, rfl⟩) (fun _ _ _ _ _ => ⟨M.keep E h1 rfl, M.keep E h2 rfl, M.keep E h3 rfl, trivial⟩) (fun _ _ _ _ _ => trivial) fun a pr vi nd1 sc1 gt σ' En _ H X =>
      q σ' (u.up 2 0 u.D) X (by show u.s + (2 : Nat) ≤ _; omega) rfl (.of hg.isM X En (M.dep (E.trans X) hd) (H.obj 12 _ rfl) (H.st (i := 2) (j := 0) (D' := u.D) (by decide) (by decide) rfl))).le (Nat.add_le_add_left (by decide) k)
  · subst o
    exact (hg.run (n := k) (sr_p2i i) rfl (M.keep E f1 rfl) (M.dep E hd) hsc (by omega) [r, x, y] [.ref b, dn] rfl rfl rfl (fun _ _ _ _ _ => ⟨rfl, rfl, rfl, rfl⟩) (fun _ _ _ _ _ => ⟨M.keep E h1 rfl, M.keep E h2 rfl, M.keep E h3 rfl, trivial⟩) (fun _ _ _ _ _ => trivial) fun a pr vi nd1 sc1 gt σ' En _ H X =>
      q σ' (u.up 2 0 u.D) X (by show u.s + (2 : Nat) ≤ _; omega) rfl (.of hg.isM X En (M.dep (E.trans X) hd) (H.obj 12 _ rfl) (H.st (i := 2) (j := 0) (D' := u.D) (by decide) (by decide) rfl))).le (Nat.add_le_add_left (by decide) k)
theorem pend3 {f as ps bd b c φ di cl : Nat} {l p p' : Int} (M : IsM σ m) (hd : Dep σ fr dp) (hsc : okV cfg.T sc = true) (h1 : at? σ r = some (oCa (.ref f) (.ref as))) (h2 : at? σ f = some (oLa (.int l) (.ref ps) (.int (-1)) (.ref bd))) (h3 : at? σ ps = some (.list [.int p', .int p])) (h4 : at? σ bd = some (oLn (.int p))) (h5 : at? σ as = some (.list [.ref c, .ref b])) (f1 : at? σ φ = some (oFo (.int 2) (.ref r) sc (.ref di) fr (.int (dp + 1)))) (f2 : at? σ di = some (.list [.ref cl, .int 8])) (f3 : at? σ cl = some (oCo (.ref f) sc)) : Pend σ m (fun v => v) 16 (.ref φ) (dp + 1) fr dp := fun σ1 u v Φ k E o hg hs q =>
  (hg.run (n := k + 1) (sr_p3 p p') rfl (M.keep E f1 rfl) (M.dep E hd) hsc (by omega) [r, as, di, cl, f, ps] [v, .ref f, .ref c, .ref b, .int l, .ref bd] rfl rfl rfl (fun _ _ _ _ _ => ⟨rfl, rfl, rfl, rfl⟩) (fun _ _ _ _ _ => ⟨M.keep E h1 rfl, M.keep E h5 rfl, M.keep E f2 rfl, M.keep E f3 rfl, M.keep E h2 rfl, M.keep E h3 rfl, trivial⟩) (fun _ _ _ _ _ => ⟨o.ok, rfl, trivial⟩) fun a pr vi nd1 sc1 gt σ' En _ H X =>
    have Y := E.trans X
    run_local (k0 := p) (v := v) (i := 0) (LK.of hg.isM X En (n := bd) rfl (M.dep Y hd) (H.st (i := 2) (j := 1) (D' := u.D) (by decide) (by decide) rfl)) (by show u.s + (2 : Nat) + 12 ≤ 5000; omega) (M.keep Y h4 rfl) (.here (H.obj 17 _ rfl) (H.obj 18 _ rfl) (lkI_here _ _ _)) (by decide) o.una o.ok fun σ2 Z g2 => q σ2 ((u.up 2 1 u.D).up 1 0 u.D) (X.trans Z) (by show u.s + (2 : Nat) + (1 : Nat) ≤ _; omega) rfl g2).le (Nat.add_le_add_left (n := 1 + 2) (by decide) k)
theorem form_w0 {f as ps bd b : Nat} {l p : Int} (h : LK σ m u r sc fr dp) (hs : u.s + 12 ≤ 5000) (h1 : at? σ r = some (oCa (.ref f) (.ref as))) (h2 : at? σ f = some (oLa (.int l) (.ref ps) (.int (-1)) (.ref bd))) (h3 : at? σ ps = some (.list [.int p])) (h4 : at? σ bd = some (oLn (.int p))) (h5 : at? σ as = some (.list [.ref b])) (q : FQ σ m u sc fr dp b Φ k (fun v => v) 1 (max u.D (dp + 1))) : Runs m Φ (k + 12) σ :=
  (h.run sr_w0 hs [r, f, as] [.int l, .ref ps, .ref bd, .ref b] rfl rfl rfl rfl (fun _ _ _ => ⟨h1, h2, h5, trivial⟩) (fun _ _ _ => ⟨rfl, rfl, trivial⟩) fun a pr vl gt σ' E hg H X =>
    have M := h.isM
    have st := H.st (i := 3) (j := 0) (by decide) (by decide) (dmax hg)
    q σ' _ sc _ X (up_le (by decide)) rfl (.of M X E h.sc (.new (H.obj 16 _ rfl)) st) (.same M X) (pend0 ⟨_, st⟩ (M.dep X h.fr) h.sc (M.keep X h1 rfl) (M.keep X h2 rfl) (M.keep X h3 rfl) (M.keep X h4 rfl) (M.keep X h5 rfl) (H.obj 16 _ rfl) (H.obj 15 _ rfl) (H.obj 12 _ rfl))).le (Nat.add_le_add_left (by decide) k)
theorem form_w1 {i c b : Nat} (h : LK σ m u r sc fr dp) (hs : u.s + 12 ≤ 5000) (h1 : at? σ r = some (oSq (.ref i))) (h2 : at? σ i = some (.list [.ref b, .ref c])) (h3 : at? σ c = some (oCn (.int 6))) (q : FQ σ m u sc fr dp b Φ k (g1 (false, 1)) 1 (max u.D (dp + 1))) : Runs m Φ (k + 12) σ :=
  (h.run sr_w1 hs [r, i] [.ref b, .ref c] rfl rfl rfl rfl (fun _ _ _ => ⟨h1, h2, trivial⟩) (fun _ _ _ => ⟨rfl, trivial⟩) fun a pr vl gt σ' E hg H X =>
    have M := h.isM
    have st := H.st (i := 1) (j := 0) (by decide) (by decide) (dmax hg)
    q σ' _ sc _ X (up_le (by decide)) rfl (.of M X E h.sc (.new (H.obj 9 _ rfl)) st) (.same M X) (pend1 ⟨_, st⟩ (M.dep X h.fr) h.sc (M.keep X h1 rfl) (M.keep X h2 rfl) (M.keep X h3 rfl) (H.obj 9 _ rfl) (H.obj 8 _ rfl))).le (Nat.add_le_add_left (by decide) k)
theorem form_w2 {x y b : Nat} (h : LK σ m u r sc fr dp) (hs : u.s + 12 ≤ 5000) (h1 : at? σ r = some (oIf (.ref b) (.ref x) (.ref y))) (h2 : at? σ x = some (oCn (.int 7))) (h3 : at? σ y = some (oCn (.bool false))) (q : FQ σ m u sc fr dp b Φ k (g1 (false, 2)) 1 (max u.D (dp + 1))) : Runs m Φ (k + 12) σ :=
  (h.run sr_w2 hs [r] [.ref b, .ref x, .ref y] rfl rfl rfl rfl (fun _ _ _ => ⟨h1, trivial⟩) (fun _ _ _ => ⟨rfl, trivial⟩) fun a pr vl gt σ' E hg H X =>
    have M := h.isM
    have st := H.st (i := 1) (j := 0) (by decide) (by decide) (dmax hg)
    q σ' _ sc _ X (up_le (by decide)) rfl (.of M X E h.sc (.new (H.obj 8 _ rfl)) st) (.same M X) (pend2 ⟨_, st⟩ (M.dep X h.fr) h.sc (M.keep X h1 rfl) (M.keep X h2 rfl) (M.keep X h3 rfl) (H.obj 8 _ rfl))).le (Nat.add_le_add_left (by decide) k)
theorem form_w3 {f as ps bd c b : Nat} {l p p' : Int} (h : LK σ m u r sc fr dp) (hs : u.s + 12 ≤ 5000) (h1 : at? σ r = some (oCa (.ref f) (.ref as))) (h2 : at? σ f = some (oLa (.int l) (.ref ps) (.int (-1)) (.ref bd))) (h3 : at? σ ps = some (.list [.int p', .int p])) (h4 : at? σ bd = some (oLn (.int p))) (h5 : at? σ as = some (.list [.ref c, .ref b])) (h6 : at? σ c = some (oCn (.int 8))) (q : FQ σ m u sc fr dp b Φ k (fun v => v) 1 (max u.D (dp + 1))) : Runs m Φ (k + 12) σ :=
  (h.run sr_w3 hs [r, f, as, c] [.int l, .ref ps, .ref bd, .ref b] rfl rfl rfl rfl (fun _ _ _ => ⟨h1, h2, h5, h6, trivial⟩) (fun _ _ _ => ⟨rfl, rfl, trivial⟩) fun a pr vl gt σ' E hg H X =>
    have M := h.isM
    have st := H.st (i := 5) (j := 0) (by decide) (by decide) (dmax hg)
    q σ' _ sc _ X (up_le (by decide)) rfl (.of M X E h.sc (.new (H.obj 22 _ rfl)) st) (.same M X) (pend3 ⟨_, st⟩ (M.dep X h.fr) h.sc (M.keep X h1 rfl) (M.keep X h2 rfl) (M.keep X h3 rfl) (M.keep X h4 rfl) (M.keep X h5 rfl) (H.obj 22 _ rfl) (H.obj 21 _ rfl) (H.obj 13 _ rfl))).le (Nat.add_le_add_left (by decide) k)
end
theorem sr_i0 (gt : Bool) (d : Nat) : runO 1 [] gt d 1 (m1 0 (.ref 6) (.opq 25) (.opq 27) (.opq 28) (.opq 26) :: (envO ++ [oCn (.bool false)])) = some (oMo (.ref 2) (.ref 1) (.opq 2) (.opq (3 + 1)) (.opq (16 + 0)) (.opq 22) (.int 2) .none .none .none (.ref 7) (.opq 26) :: (envO ++ [oCn (.bool false), .list [.bool false]])) := by cases gt <;> kernel_rfl
theorem sr_i1 (gt : Bool) (d : Nat) : runO 1 [32] gt d 1 (m1 0 (.ref 6) (.opq 25) (.opq 27) (.opq 28) (.opq 26) :: (envO ++ [oLa (.opq 32) (.opq 33) (.int (-1)) (.opq 34)])) = some (oMo (.ref 2) (.ref 1) (.opq 2) (.opq (3 + 1)) (.opq (16 + 0)) (.opq 22) (.int 2) .none .none .none (.ref 8) (.opq 26) :: (envO ++ [oLa (.opq 32) (.opq 33) (.int (-1)) (.opq 34), oCo (.ref 6) (.opq 25), .list [.ref 7]])) := by cases gt <;> kernel_rfl
theorem sr_A (gt : Bool) (d : Nat) : runO 11 [38] gt d 9 (m1 1 (.opq 32) (.opq 33) (.ref 7) (.ref 6) (.opq 26) :: (envO ++ [.list [.ref 8], oCo (.ref 9) (.opq 25), oCo (.opq 34) (.opq 35), oLa (.opq 36) (.ref 10) (.int (-1)) (.ref 11), .list [.int 1003], oIf (.ref 12) (.ref 13) (.opq 37), oLn (.int 1003), oCa (.ref 14) (.ref 15), oLn (.int 1003), .list [.ref 16], oLa (.opq 38) (.opq 39) (.int (-1)) (.opq 40)])) = some (oMo (.ref 2) (.ref 1) (.opq 2) (.opq (3 + 9)) (.opq (16 + 1)) (.opq (bif gt then 24 else 22)) (.int 1) .none .none (.ref 8) (.ref 37) (.opq 26) :: (envO ++ [.list [.ref 8], oCo (.ref 9) (.opq 25), oCo (.opq 34) (.opq 35), oLa (.opq 36) (.ref 10) (.int (-1)) (.ref 11), .list [.int 1003], oIf (.ref 12) (.ref 13) (.opq 37), oLn (.int 1003), oCa (.ref 14) (.ref 15), oLn (.int 1003), .list [.ref 16], oLa (.opq 38) (.opq 39) (.int (-1)) (.opq 40), oSo (.opq 25) (.ref 18), .dict [(1003, .ref 8)], .list [], .list [], oFo (.int 0) (.ref 11) (.ref 17) (.ref 20) (.opq 26) (.opq 24), .list [], .list [.ref 8], .list [], .list [], oFo (.int 2) (.ref 13) (.ref 17) (.ref 25) (.opq 26) (.opq 24), .list [], .list [.ref 8], .list [.ref 8], .list [.ref 8], oFo (.int 2) (.ref 13) (.ref 17) (.ref 30) (.opq 26) (.opq 24), .list [], oCo (.ref 16) (.ref 17), .list [.ref 33], .list [.ref 33], .list [.ref 8, .ref 33], .list [.ref 33]])) := by cases gt <;> kernel_rfl
theorem sr_B1 (p : Int) (gt : Bool) (d : Nat) : runO 5 [34, 36] gt d 2 (m1 1 (.opq 32) (.opq 33) (.ref 7) (.ref 6) (.opq 26) :: (envO ++ [.list [.opq 34], oCo (.ref 8) (.opq 25), oLa (.opq 35) (.ref 9) (.int (-1)) (.ref 10), .list [.int p], oCa (.opq 36) (.opq 37)])) = some (oMo (.ref 2) (.ref 1) (.opq 2) (.opq (3 + 2)) (.opq (16 + 1)) (.opq (bif gt then 24 else 22)) (.int 0) (.opq 36) (.ref 11) .none (.ref 16) (.ref 15) :: (envO ++ [.list [.opq 34], oCo (.ref 8) (.opq 25), oLa (.opq 35) (.ref 9) (.int (-1)) (.ref 10), .list [.int p], oCa (.opq 36) (.opq 37), oSo (.opq 25) (.ref 12), .dict [(p, .opq 34)], .list [], .list [], oFo (.int 2) (.ref 10) (.ref 11) (.ref 14) (.opq 26) (.opq 24), .list []])) := by cases gt <;> kernel_rfl
theorem sr_B2 (i : Int) (gt : Bool) (d : Nat) : runO 6 [34, 36] gt d 3 (m1 2 (.opq 32) (.opq 33) (.opq 27) (.ref 6) (.ref 7) :: (envO ++ [.list [.opq 34], oFo (.int 2) (.ref 8) (.opq 25) (.ref 10) (.opq 26) (.opq 24), oCa (.opq 35) (.ref 9), .list [.ref 11, .opq 36], .list [], oCn (.int i)])) = some (oMo (.ref 2) (.ref 1) (.opq 2) (.opq (3 + 3)) (.opq (16 + 0)) (.opq (bif gt then 24 else 22)) (.int 0) (.opq 36) (.opq 25) .none (.ref 20) (.ref 19) :: (envO ++ [.list [.opq 34], oFo (.int 2) (.ref 8) (.opq 25) (.ref 10) (.opq 26) (.opq 24), oCa (.opq 35) (.ref 9), .list [.ref 11, .opq 36], .list [], oCn (.int i), .list [.opq 34], .list [.opq 34], oFo (.int 2) (.ref 8) (.opq 25) (.ref 13) (.opq 26) (.opq 24), .list [], .list [.int i], .list [.int i], .list [.opq 34, .int i], oFo (.int 2) (.ref 8) (.opq 25) (.ref 18) (.opq 26) (.opq 24), .list []])) := by cases gt <;> kernel_rfl
theorem sr_B3 (i : Int) (gt : Bool) (d : Nat) : runO 8 [34, 39, 40] gt d 2 (m1 2 (.opq 32) (.opq 33) (.opq 27) (.ref 6) (.ref 7) :: (envO ++ [.list [.opq 34], oFo (.int 2) (.ref 8) (.opq 25) (.ref 10) (.opq 26) (.opq 24), oCa (.opq 35) (.ref 9), .list [.opq 36, .opq 37], .list [.ref 11, .int i], oCo (.ref 12) (.opq 40), oLa (.opq 38) (.ref 13) (.int (-1)) (.opq 39), .list [.int 1001, .int 1002]])) = some (oMo (.ref 2) (.ref 1) (.opq 2) (.opq (3 + 2)) (.opq (16 + 1)) (.opq 22) (.int 0) (.opq 39) (.ref 17) .none (.ref 19) (.opq 26) :: (envO ++ [.list [.opq 34], oFo (.int 2) (.ref 8) (.opq 25) (.ref 10) (.opq 26) (.opq 24), oCa (.opq 35) (.ref 9), .list [.opq 36, .opq 37], .list [.ref 11, .int i], oCo (.ref 12) (.opq 40), oLa (.opq 38) (.ref 13) (.int (-1)) (.opq 39), .list [.int 1001, .int 1002], .list [.opq 34], .list [.ref 11, .int i, .opq 34], .list [.int i, .opq 34], oSo (.opq 40) (.ref 18), .dict [(1002, .opq 34), (1001, .int i)], .list []])) := by cases gt <;> kernel_rfl
theorem sr_C1 (gt : Bool) (d : Nat) : runO 1 [32] gt d 1 (m1 0 (.ref 6) (.opq 25) (.opq 27) (.opq 28) (.opq 26) :: (envO ++ [oCa (.opq 32) (.opq 33)])) = some (oMo (.ref 2) (.ref 1) (.opq 2) (.opq (3 + 1)) (.opq (16 + 0)) (.opq (bif gt then 24 else 22)) (.int 0) (.opq 32) (.opq 25) .none (.ref 9) (.ref 8) :: (envO ++ [oCa (.opq 32) (.opq 33), .list [], oFo (.int 2) (.ref 6) (.opq 25) (.ref 7) (.opq 26) (.opq 24), .list []])) := by cases gt <;> kernel_rfl
theorem sr_C2 (gt : Bool) (d : Nat) : runO 5 [34, 36] gt d 1 (m1 2 (.opq 32) (.opq 33) (.opq 27) (.ref 6) (.ref 7) :: (envO ++ [.list [.opq 34], oFo (.int 2) (.ref 8) (.opq 25) (.ref 10) (.opq 26) (.opq 24), oCa (.opq 35) (.ref 9), .list [.opq 36], .list []])) = some (oMo (.ref 2) (.ref 1) (.opq 2) (.opq (3 + 1)) (.opq (16 + 0)) (.opq (bif gt then 24 else 22)) (.int 0) (.opq 36) (.opq 25) .none (.ref 14) (.ref 13) :: (envO ++ [.list [.opq 34], oFo (.int 2) (.ref 8) (.opq 25) (.ref 10) (.opq 26) (.opq 24), oCa (.opq 35) (.ref 9), .list [.opq 36], .list [], .list [.opq 34], .list [.opq 34], oFo (.int 2) (.ref 8) (.opq 25) (.ref 12) (.opq 26) (.opq 24), .list []])) := by cases gt <;> kernel_rfl
theorem sr_C3 (gt : Bool) (d : Nat) : runO 5 [34, 37] gt d 1 (m1 2 (.opq 32) (.opq 33) (.opq 27) (.ref 6) (.ref 7) :: (envO ++ [.list [.opq 34], oFo (.int 2) (.ref 8) (.opq 25) (.ref 10) (.opq 26) (.opq 24), oCa (.opq 35) (.ref 9), .list [.opq 36], .list [.opq 37]])) = some (oMo (.ref 2) (.ref 1) (.opq 2) (.opq (3 + 1)) (.opq (16 + 0)) (.opq 22) (.int 1) .none .none (.opq 37) (.ref 13) (.opq 26) :: (envO ++ [.list [.opq 34], oFo (.int 2) (.ref 8) (.opq 25) (.ref 10) (.opq 26) (.opq 24), oCa (.opq 35) (.ref 9), .list [.opq 36], .list [.opq 37], .list [.opq 34], .list [.opq 37, .opq 34], .list [.opq 34]])) := by cases gt <;> kernel_rfl
theorem sr_Z (gt : Bool) (d : Nat) : runO 7 [36] gt d 5 (m1 1 (.opq 32) (.opq 33) (.ref 7) (.ref 6) (.opq 26) :: (envO ++ [.list [.bool false], oCo (.ref 8) (.opq 25), oLa (.opq 34) (.ref 9) (.int (-1)) (.ref 10), .list [.int 1003], oIf (.ref 11) (.opq 35) (.ref 12), oLn (.int 1003), oCn (.opq 36)])) = some (oMo (.ref 2) (.ref 1) (.opq 2) (.opq (3 + 5)) (.opq (16 + 1)) (.opq (bif gt then 24 else 22)) (.int 2) .none .none .none (.ref 21) (.opq 26) :: (envO ++ [.list [.bool false], oCo (.ref 8) (.opq 25), oLa (.opq 34) (.ref 9) (.int (-1)) (.ref 10), .list [.int 1003], oIf (.ref 11) (.opq 35) (.ref 12), oLn (.int 1003), oCn (.opq 36), oSo (.opq 25) (.ref 14), .dict [(1003, .bool false)], .list [], .list [], oFo (.int 0) (.ref 10) (.ref 13) (.ref 16) (.opq 26) (.opq 24), .list [], .list [.bool false], .list [], .list [.opq 36]])) := by cases gt <;> kernel_rfl
theorem sr_T (gt : Bool) (d : Nat) : runO 7 [32, 35] gt d 4 (m1 0 (.ref 6) (.opq 25) (.opq 27) (.opq 28) (.opq 26) :: (envO ++ [oFx (.ref 7) (.ref 8) (.ref 9), .list [.int 1000], .list [.ref 10], oCa (.ref 11) (.ref 12), oLa (.opq 32) (.opq 33) (.int (-1)) (.opq 34), oLn (.int 1000), .list [.opq 35]])) = some (oMo (.ref 2) (.ref 1) (.opq 2) (.opq (3 + 4)) (.opq (16 + 0)) (.opq (bif gt then 24 else 22)) (.int 0) (.opq 35) (.ref 13) .none (.ref 24) (.ref 23) :: (envO ++ [oFx (.ref 7) (.ref 8) (.ref 9), .list [.int 1000], .list [.ref 10], oCa (.ref 11) (.ref 12), oLa (.opq 32) (.opq 33) (.int (-1)) (.opq 34), oLn (.int 1000), .list [.opq 35], oSo (.opq 25) (.ref 14), .dict [(1000, .ref 15)], oCo (.ref 10) (.ref 13), .list [], .list [], oFo (.int 2) (.ref 9) (.ref 13) (.ref 17) (.opq 26) (.opq 24), .list [], .list [.ref 15], .list [.ref 15], .list [.ref 15], oFo (.int 2) (.ref 9) (.ref 13) (.ref 22) (.opq 26) (.opq 24), .list []])) := by cases gt <;> kernel_rfl
noncomputable def Lie (σ : H) : List (Nat × O) → Prop
  | [] => True
  | x :: l => at? σ x.1 = some x.2 ∧ Lie σ l
theorem Lie.mono {σ σ' : H} {m : Nat} (hM : IsM σ m) (E : Ext m σ σ') {l : List (Nat × O)} (hl : (l.all fun x => notM x.2) = true) (h : Lie σ l) : Lie σ' l := by
  induction l with
  | nil => trivial
  | cons x l ih => exact anE hl fun h1 h2 => ⟨hM.keep E h.1 h1, ih h2 h.2⟩
noncomputable def lam (l : Int) (ps b : Nat) : O := oLa (.int l) (.ref ps) (.int (-1)) (.ref b)
inductive FormAt (σ : H) : Bool × Int → Nat → Nat → Prop where
  | l0 {r a b c : Nat} : Lie σ [(r, oIf (.ref a) (.ref b) (.ref c)), (a, oCn (.bool true)), (c, oCn (.int 0))] → FormAt σ (true, 0) b r
  | l1 {r i x y b : Nat} : Lie σ [(r, oSq (.ref i)), (i, .list [.ref x, .ref y, .ref b]), (x, oCn (.int 1)), (y, oCn (.int 2))] → FormAt σ (true, 1) b r
  | l2 {r f ps as c b : Nat} {l p : Int} : Lie σ [(r, oCa (.ref f) (.ref as)), (f, lam l ps b), (ps, .list [.int p]), (as, .list [.ref c]), (c, oCn (.int 3))] → p < 1000 → FormAt σ (true, 2) b r
  | l3 {r nums lams la ps bd b : Nat} {l p : Int} : Lie σ [(r, oFx (.ref nums) (.ref lams) (.ref b)), (nums, .list [.int p]), (lams, .list [.ref la]), (la, lam l ps bd), (bd, oCn (.int 4))] → p < 1000 → FormAt σ (true, 3) b r
  | l4 {r g as f ps1 b1 t ps2 b : Nat} {l1 l2 p : Int} : Lie σ [(r, oCa (.ref g) (.ref as)), (g, oGn (.int 1)), (as, .list [.ref f, .ref t]), (f, lam l1 ps1 b1), (ps1, .list []), (b1, oCn (.int 5)), (t, lam l2 ps2 b), (ps2, .list [.int p])] → p < 1000 → FormAt σ (true, 4) b r
  | l5 {r g as t ps b : Nat} {l p : Int} : Lie σ [(r, oCa (.ref g) (.ref as)), (g, oGn (.int 2)), (as, .list [.ref t]), (t, lam l ps b), (ps, .list [.int p])] → p < 1000 → FormAt σ (true, 5) b r
  | w0 {r f as ps bd b : Nat} {l p : Int} : Lie σ [(r, oCa (.ref f) (.ref as)), (f, lam l ps bd), (ps, .list [.int p]), (bd, oLn (.int p)), (as, .list [.ref b])] → FormAt σ (false, 0) b r
  | w1 {r i c b : Nat} : Lie σ [(r, oSq (.ref i)), (i, .list [.ref b, .ref c]), (c, oCn (.int 6))] → FormAt σ (false, 1) b r
  | w2 {r b x y : Nat} : Lie σ [(r, oIf (.ref b) (.ref x) (.ref y)), (x, oCn (.int 7)), (y, oCn (.bool false))] → FormAt σ (false, 2) b r
  | w3 {r f as ps bd c b : Nat} {l p p' : Int} : Lie σ [(r, oCa (.ref f) (.ref as)), (f, lam l ps bd), (ps, .list [.int p', .int p]), (bd, oLn (.int p)), (as, .list [.ref c, .ref b]), (c, oCn (.int 8))] → FormAt σ (false, 3) b r
theorem FormAt.mono {σ σ' : H} {m : Nat} (hM : IsM σ m) (E : Ext m σ σ') {f : Bool × Int} {b r : Nat} (h : FormAt σ f b r) : FormAt σ' f b r := by
  cases h with
  | l0 h => exact .l0 (h.mono hM E rfl)
  | l1 h => exact .l1 (h.mono hM E rfl)
  | l2 h hp => exact .l2 (h.mono hM E rfl) hp
  | l3 h hp => exact .l3 (h.mono hM E rfl) hp
  | l4 h hp => exact .l4 (h.mono hM E rfl) hp
  | l5 h hp => exact .l5 (h.mono hM E rfl) hp
  | w0 h => exact .w0 (h.mono hM E rfl)
  | w1 h => exact .w1 (h.mono hM E rfl)
  | w2 h => exact .w2 (h.mono hM E rfl)
  | w3 h => exact .w3 (h.mono hM E rfl)
noncomputable def pk1 (f : Bool × Int) : Int := bif f.1 && decide (f.2 = 3) then 0 else 1
noncomputable def w1 (f : Bool × Int) : Int := bif f.1 then 0 else 1
section
variable {σ : H} {m : Nat} {u : Nums} {r : Nat} {sc fr : V} {dp : Int} {Φ : H → Prop} {k : Nat}
theorem form_run {f : Bool × Int} {b : Nat} (hf : FormAt σ f b r) (h : LK σ m u r sc fr dp) (hD : dp ≤ u.D) (hs : u.s + 12 ≤ 5000) (q : FQ σ m u sc fr dp b Φ k (g1 f) (w1 f) (max u.D (dp + pk1 f))) : Runs m Φ (k + 12) σ := by
  cases hf with
  | l0 g => exact form_l0 h hs g.1 g.2.1 q
  | l1 g => exact form_l1 h hs g.1 g.2.1 g.2.2.1 g.2.2.2.1 q
  | l2 g hp => exact form_l2 h hs g.1 g.2.1 g.2.2.1 g.2.2.2.1 g.2.2.2.2.1 hp q
  | l3 g hp => exact form_l3 h hD hs g.1 g.2.1 g.2.2.1 g.2.2.2.1 hp q
  | l4 g hp => exact form_l4 h hs g.1 g.2.1 g.2.2.1 g.2.2.2.1 g.2.2.2.2.1 g.2.2.2.2.2.1 g.2.2.2.2.2.2.1 g.2.2.2.2.2.2.2.1 hp q
  | l5 g hp => exact form_l5 h hs g.1 g.2.1 g.2.2.1 g.2.2.2.1 g.2.2.2.2.1 hp q
  | w0 g => exact form_w0 h hs g.1 g.2.1 g.2.2.1 g.2.2.2.1 g.2.2.2.2.1 q
  | w1 g => exact form_w1 h hs g.1 g.2.1 g.2.2.1 q
  | w2 g => exact form_w2 h hs g.1 g.2.1 g.2.2.1 q
  | w3 g => exact form_w3 h hs g.1 g.2.1 g.2.2.1 g.2.2.2.1 g.2.2.2.2.1 g.2.2.2.2.2.1 q
end
inductive FormsAt (σ : H) : List (Bool × Int) → Nat → Nat → Prop where
  | nil {b : Nat} : FormsAt σ [] b b
  | cons {f : Bool × Int} {fs : List (Bool × Int)} {b n o : Nat} : FormAt σ f b n → FormsAt σ fs n o → FormsAt σ (f :: fs) b o
theorem FormsAt.mono {σ σ' : H} {m : Nat} (hM : IsM σ m) (E : Ext m σ σ') {fs : List (Bool × Int)} {b o : Nat} (h : FormsAt σ fs b o) : FormsAt σ' fs b o := by
  induction h with
  | nil => exact .nil
  | cons h1 _ ih => exact .cons (h1.mono hM E) ih
noncomputable def wF : List (Bool × Int) → Int
  | [] => 0
  | f :: fs => wF fs + w1 f
noncomputable def pkF : List (Bool × Int) → Int
  | [] => 0
  | f :: fs => max (pkF fs) (wF fs + pk1 f)
theorem w1_nn (f : Bool × Int) : 0 ≤ w1 f := by unfold w1; cases f.1 <;> decide
theorem wp1 (f : Bool × Int) : w1 f ≤ pk1 f := by unfold w1 pk1; cases f.1 <;> cases decide (f.2 = 3) <;> decide
theorem wF_nn (fs) : 0 ≤ wF fs := by
  induction fs with
  | nil => exact Int.le_refl 0
  | cons f fs ih => exact Int.add_nonneg ih (w1_nn f)
theorem wpF (fs) : wF fs ≤ pkF fs := by
  induction fs with
  | nil => exact Int.le_refl 0
  | cons f fs ih => exact Int.le_trans (Int.add_le_add_left (wp1 f) _) (Int.le_max_right _ _)
theorem addmax (d p q : Int) : d + max p q = max (d + p) (d + q) := by
  rcases Int.le_total p q with h | h
  · rw [Int.max_eq_right h, Int.max_eq_right (Int.add_le_add_left h d)]
  · rw [Int.max_eq_left h, Int.max_eq_left (Int.add_le_add_left h d)]
theorem max3 (D dp p w q : Int) : max (max D (dp + p)) (dp + w + q) = max D (dp + max p (w + q)) := by
  rw [addmax, Int.add_assoc, Int.max_assoc]
theorem forms_run {m : Nat} (fs : List (Bool × Int)) : ∀ (b o : Nat) (σ : H) (u : Nums) (sc fr : V) (dp : Int) (Φ : H → Prop) (k : Nat), FormsAt σ fs b o → LK σ m u o sc fr dp → dp ≤ u.D → u.s + (12 * fs.length : Nat) ≤ 5000 →
    (∀ σ' u' sc' fr', Ext m σ σ' → u'.s ≤ u.s + (12 * fs.length : Nat) → u'.D = max u.D (dp + pkF fs) → LK σ' m u' b sc' fr' (dp + wF fs) → SubN fs.length σ sc σ' sc' → Pend σ' m (gF fs) (16 * fs.length) fr' (dp + wF fs) fr dp → Runs m Φ k σ') → Runs m Φ (k + 12 * fs.length) σ := by
  induction fs with
  | nil =>
    intro b o σ u sc fr dp Φ k hf h hD hs q
    cases hf
    rw [show dp + wF [] = dp from Int.add_zero dp] at q
    refine q σ u sc fr (Ext.refl _ _) (Int.le_add_of_nonneg_right (Int.natCast_nonneg _)) ?_ h (fun k0 v i _ h => ⟨i, Nat.le_refl _, h⟩) (Pend.id σ m fr dp)
    show u.D = max u.D (dp + 0); omega
  | cons f fs ih =>
    intro b o σ u sc fr dp Φ k hf h hD hs q
    cases hf with
    | @cons _ _ _ n _ f1 f2 =>
      have M := h.isM
      have hl : ((12 * (f :: fs).length : Nat) : Int) = (12 * fs.length : Nat) + 12 := by rw [List.length_cons]; omega
      rw [hl] at hs q
      refine (ih n o σ u sc fr dp Φ (k + 12) f2 h hD (by omega) fun σ1 u1 sc1 fr1 E1 s1 d1 h1 b1 p1 => ?_).le (by rw [List.length_cons]; omega)
      refine form_run (f1.mono M E1) h1 (by rw [d1]; have := wpF fs; omega) (by omega) fun σ2 u2 sc2 fr2 E2 s2 d2 h2 b2 p2 => ?_
      rw [show dp + wF fs + w1 f = dp + wF (f :: fs) from Int.add_assoc _ _ _] at h2 p2
      exact q σ2 u2 sc2 fr2 (E1.trans E2) (by omega) (by rw [d2, d1]; exact max3 _ _ _ _ _) h2 (b1.trans b2) (Pend.le (p1.trans E2 p2 fun v hv => g1_ok f hv) (by rw [List.length_cons]; omega))
inductive ItN (σ : H) : Nat → Nat → Prop where
  | nil {r : Nat} : at? σ r = some (oCn (.bool false)) → ItN σ 0 r
  | cons {n r ps ca ln as t r' : Nat} {l a i : Int} : Lie σ [(r, lam l ps ca), (ps, .list [.int a]), (ca, oCa (.ref ln) (.ref as)), (ln, oLn (.int a)), (as, .list [.ref t, .ref r']), (t, oCn (.int i))] → ItN σ n r' → ItN σ (n + 1) r
theorem ItN.mono {σ σ' : H} {m : Nat} (hM : IsM σ m) (E : Ext m σ σ') {n r : Nat} (h : ItN σ n r) : ItN σ' n r := by
  induction h with
  | nil h => exact .nil (hM.keep E h rfl)
  | cons h _ ih => exact .cons (h.mono hM E rfl) ih
inductive ItV (σ : H) : Nat → V → Prop where
  | nil : ItV σ 0 (.bool false)
  | cons {f n r : Nat} {sc : V} : at? σ f = some (oCo (.ref r) sc) → okV cfg.T sc = true → ItN σ (n + 1) r → ItV σ (n + 1) (.ref f)
theorem ItV.mono {σ σ' : H} {m : Nat} (hM : IsM σ m) (E : Ext m σ σ') {n : Nat} {v : V} (h : ItV σ n v) : ItV σ' n v := by
  cases h with
  | nil => exact .nil
  | cons h0 hb h1 => exact .cons (hM.keep E h0 rfl) hb (h1.mono hM E)
theorem ItV.una {σ : H} {n : Nat} {v : V} (h : ItV σ n v) : isV cfg.T v (.val 50) = some false := by cases h <;> rfl
theorem ItV.ok {σ : H} {n : Nat} {v : V} (h : ItV σ n v) : okV cfg.T v = true := by cases h <;> rfl
inductive LoopT (σ : H) (fs : List (Bool × Int)) (ending : V) : Nat → Prop where
  | mk {la ps body t c e t2 as2 tk ps2 node base lb asb rb : Nat} {l l2 : Int} : Lie σ [(la, lam l ps body), (ps, .list [.int 1003]), (body, oIf (.ref t) (.ref c) (.ref e)), (t, oLn (.int 1003)), (c, oCa (.ref t2) (.ref as2)), (t2, oLn (.int 1003)), (as2, .list [.ref tk]), (tk, lam l2 ps2 node), (ps2, .list [.int 1001, .int 1002]), (base, oCa (.ref lb) (.ref asb)), (lb, oLn (.int 1000)), (asb, .list [.ref rb]), (rb, oLn (.int 1002)), (e, oCn ending)] → FormsAt σ fs base node → LoopT σ fs ending la
theorem LoopT.mono {σ σ' : H} {m : Nat} (hM : IsM σ m) (E : Ext m σ σ') {fs : List (Bool × Int)} {e : V} {la : Nat} (h : LoopT σ fs e la) : LoopT σ' fs e la := by
  cases h with
  | mk h g => exact .mk (h.mono hM E rfl) (g.mono hM E)
inductive LoopAt (σ : H) (fs : List (Bool × Int)) (ending : V) : Nat → Prop where
  | mk {f la s0 ds0 : Nat} {o0 : V} : at? σ f = some (oCo (.ref la) (.ref s0)) → at? σ s0 = some (oSo o0 (.ref ds0)) → at? σ ds0 = some (.dict [(1000, .ref f)]) → LoopT σ fs ending la → LoopAt σ fs ending f
theorem LoopAt.mono {σ σ' : H} {m : Nat} (hM : IsM σ m) (E : Ext m σ σ') {fs : List (Bool × Int)} {e : V} {f : Nat} (h : LoopAt σ fs e f) : LoopAt σ' fs e f := by
  cases h with
  | mk h1 h2 h3 g => exact .mk (hM.keep E h1 rfl) (hM.keep E h2 rfl) (hM.keep E h3 rfl) (g.mono hM E)
noncomputable def gN (fs : List (Bool × Int)) (ending : V) : Nat → V
  | 0 => ending
  | n + 1 => gF fs (gN fs ending n)
theorem gN_ok (fs : List (Bool × Int)) {ending : V} (h : Sm ending) (n : Nat) : Sm (gN fs ending n) := by
  induction n with
  | zero => exact h
  | succ n ih => exact gF_ok fs ih
noncomputable def pkN (fs : List (Bool × Int)) : Nat → Int
  | 0 => 1
  | n + 1 => (n : Int) * wF fs + max (pkF fs) (wF fs + 1)
noncomputable def cN (L : Nat) : Nat → Nat
  | 0 => 12
  | n + 1 => cN L n + (60 + 28 * L)
theorem cN_eq (L n : Nat) : cN L n = 12 + n * (60 + 28 * L) := by
  induction n with
  | zero => rw [Nat.zero_mul]; rfl
  | succ n ih =>
    rw [show cN L (n + 1) = cN L n + (60 + 28 * L) from rfl, ih]
    generalize 60 + 28 * L = X
    rw [Nat.succ_mul, Nat.add_assoc]
theorem pkN_step (fs : List (Bool × Int)) (n : Nat) : pkN fs (n + 1) = max (max (pkF fs) (wF fs + 1)) (wF fs + pkN fs n) := by
  cases n with
  | zero =>
    show ((0 : Nat) : Int) * wF fs + max (pkF fs) (wF fs + 1) = max (max (pkF fs) (wF fs + 1)) (wF fs + 1)
    rw [Int.max_eq_left (Int.le_max_right _ _), Int.natCast_zero, Int.zero_mul, Int.zero_add]
  | succ n =>
    show ((n + 1 : Nat) : Int) * wF fs + max (pkF fs) (wF fs + 1) = max (max (pkF fs) (wF fs + 1)) (wF fs + ((n : Int) * wF fs + max (pkF fs) (wF fs + 1)))
    rw [show ((n + 1 : Nat) : Int) = (n : Int) + 1 from rfl, Int.add_mul, Int.one_mul, Int.add_comm _ (wF fs), Int.add_assoc]
    exact (Int.max_eq_right (Int.le_trans (Int.le_add_of_nonneg_left (Int.mul_nonneg (Int.natCast_nonneg n) (wF_nn fs))) (Int.le_add_of_nonneg_left (wF_nn fs)))).symm
theorem maxL {D dp p w q : Int} (hw : 0 ≤ w) : max (max (max (max (max D (dp + 1)) (dp + 1)) (dp + p)) (dp + w + 1)) (dp + w + q) = max D (dp + max (max p (w + 1)) (w + q)) := by
  have h : dp + 1 ≤ max (dp + p) (max (dp + (w + 1)) (dp + (w + q))) := Int.le_trans (Int.add_le_add_left (Int.le_add_of_nonneg_left hw) dp) (Int.le_trans (Int.le_max_left _ _) (Int.le_max_right _ _))
  rw [addmax, addmax, Int.add_assoc, Int.add_assoc, Int.max_assoc, Int.max_assoc, Int.max_assoc, Int.max_assoc, Int.max_assoc, Int.max_eq_right h, Int.max_eq_right h]
section
variable {σ : H} {m : Nat} {u : Nums} {sc fr : V} {dp : Int} {Φ : H → Prop} {k r n : Nat}
theorem run_items (hi : ItN σ n r) (h : LK σ m u r sc fr dp) (hs : u.s + 12 ≤ 5000) (q : ∀ σ' v, Ext m σ σ' → GV σ' m (u.up 1 0 u.D) v fr dp → ItV σ' n v → Runs m Φ k σ') : Runs m Φ (k + 1) σ := by
  have M := h.isM
  cases hi with
  | nil hr => exact h.run sr_i0 hs [r] [] rfl rfl rfl rfl (fun _ _ _ => ⟨hr, trivial⟩) (fun _ _ _ => trivial) fun a pr vl gt σ' E hg H X => q σ' _ X (.of M X E (M.dep X h.fr) (H.obj 7 _ rfl) (H.st (i := 1) (j := 0) (by decide) (by decide) rfl)) .nil
  | @cons n _ ps ca ln as t r' l a i g g' => exact h.run sr_i1 hs [r] [.int l, .ref ps, .ref ca] rfl rfl rfl rfl (fun _ _ _ => ⟨g.1, trivial⟩) (fun _ _ _ => ⟨rfl, trivial⟩) fun a pr vl gt σ' E hg H X => q σ' _ X (.of M X E (M.dep X h.fr) (H.obj 8 _ rfl) (H.st (i := 1) (j := 0) (by decide) (by decide) rfl)) (.cons (H.obj 7 _ rfl) h.sc (.cons (g.mono M X rfl) (g'.mono M X)))
theorem partA {f vf vr la s0 ps body t c e t2 as2 tk ps2 node : Nat} {l l2 : Int} {vsc : V} (h : CL σ m u (.ref f) [.ref vf] fr dp) (hs : u.s + 12 ≤ 5000) (hf : at? σ f = some (oCo (.ref la) (.ref s0))) (hv : at? σ vf = some (oCo (.ref vr) vsc)) (g : Lie σ [(la, lam l ps body), (ps, .list [.int 1003]), (body, oIf (.ref t) (.ref c) (.ref e)), (t, oLn (.int 1003)), (c, oCa (.ref t2) (.ref as2)), (t2, oLn (.int 1003)), (as2, .list [.ref tk]), (tk, lam l2 ps2 node)])
    (q : ∀ σ' s1 d1 tk8, Ext m σ σ' → CL σ' m (u.up 9 1 (max u.D (dp + 1))) (.ref vf) [.ref tk8] fr dp → at? σ' s1 = some (oSo (.ref s0) (.ref d1)) → at? σ' d1 = some (.dict [(1003, .ref vf)]) → at? σ' tk8 = some (oCo (.ref tk) (.ref s1)) → Runs m Φ k σ') : Runs m Φ (k + 9) σ :=
  h.run (sc := .ref s0) sr_A rfl hs [f, vf, la, ps, body, t, c, t2, as2, tk] [.ref vr, vsc, .int l, .ref e, .int l2, .ref ps2, .ref node] rfl rfl rfl (fun _ _ _ _ => ⟨rfl, rfl⟩) (fun _ _ _ _ => ⟨hf, hv, g⟩) (fun _ _ _ _ => ⟨rfl, trivial⟩) fun a vi nd1 sc1 gt σ' E hg H X => q σ' _ _ _ X (.of h.isM X E (h.isM.dep X h.fr) (H.obj 37 _ rfl) (H.st (i := 9) (j := 1) (by decide) (by decide) (dmax hg))) (H.obj 17 _ rfl) (H.obj 18 _ rfl) (H.obj 33 _ rfl)
theorem run_B1 {f la ps b ln as : Nat} {csc v : V} {l p : Int} (h : CL σ m u (.ref f) [v] fr dp) (hv : okV cfg.T v = true) (hs : u.s + 12 ≤ 5000) (hf : at? σ f = some (oCo (.ref la) csc)) (hb : okV cfg.T csc = true) (h1 : at? σ la = some (lam l ps b)) (h2 : at? σ ps = some (.list [.int p])) (h3 : at? σ b = some (oCa (.ref ln) (.ref as)))
    (q : ∀ σ' φ di s1 ds, Ext m σ σ' → LK σ' m (u.up 2 1 (max u.D (dp + 1))) ln (.ref s1) (.ref φ) (dp + 1) → at? σ' φ = some (oFo (.int 2) (.ref b) (.ref s1) (.ref di) fr (.int (dp + 1))) → at? σ' di = some (.list []) → at? σ' s1 = some (oSo csc (.ref ds)) → at? σ' ds = some (.dict [(p, v)]) → Runs m Φ k σ') : Runs m Φ (k + 2) σ :=
  h.run (sc := csc) (sr_B1 p) hb hs [f, la, ps, b] [v, .int l, .ref ln, .ref as] rfl rfl rfl (fun _ _ _ _ => ⟨rfl, rfl⟩) (fun _ _ _ _ => ⟨hf, h1, h2, h3, trivial⟩) (fun _ _ _ _ => ⟨hv, rfl, trivial⟩) fun a vi nd1 sc1 gt σ' E hg H X =>
    q σ' _ _ _ _ X (.of h.isM X E rfl (.new (H.obj 15 _ rfl)) (H.st (i := 2) (j := 1) (by decide) (by decide) (dmax hg))) (H.obj 15 _ rfl) (H.obj 14 _ rfl) (H.obj 11 _ rfl) (H.obj 12 _ rfl)
theorem run_B2 {φ di n as t r' : Nat} {v fo : V} {i : Int} (h : GV σ m u v (.ref φ) (dp + 1)) (hv : okV cfg.T v = true) (hs : u.s + 12 ≤ 5000) (hf : at? σ φ = some (oFo (.int 2) (.ref n) sc (.ref di) fr (.int (dp + 1)))) (hd : Dep σ fr dp) (hb : okV cfg.T sc = true) (h1 : at? σ n = some (oCa fo (.ref as))) (h2 : at? σ as = some (.list [.ref t, .ref r'])) (h3 : at? σ di = some (.list [])) (h4 : at? σ t = some (oCn (.int i)))
    (q : ∀ σ' φ2 d2, Ext m σ σ' → LK σ' m (u.up 3 0 (max u.D (dp + 1))) r' sc (.ref φ2) (dp + 1) → at? σ' φ2 = some (oFo (.int 2) (.ref n) sc (.ref d2) fr (.int (dp + 1))) → at? σ' d2 = some (.list [v, .int i]) → Runs m Φ k σ') : Runs m Φ (k + 3) σ :=
  h.run (sr_B2 i) rfl hf hd hb hs [n, as, di, t] [v, fo, .ref r'] rfl rfl rfl (fun _ _ _ _ _ => ⟨rfl, rfl, rfl, rfl⟩) (fun _ _ _ _ _ => ⟨h1, h2, h3, h4, trivial⟩) (fun _ _ _ _ _ => ⟨hv, rfl, trivial⟩) fun a pr vi nd1 sc1 gt σ' E hg H X =>
    q σ' _ _ X (.of h.isM X E hb (.new (H.obj 19 _ rfl)) (H.st (i := 3) (j := 0) (by decide) (by decide) (dmax hg))) (H.obj 19 _ rfl) (H.obj 18 _ rfl)
theorem run_B3 {φ di n as f la ps b : Nat} {v fo o1 o2 csc : V} {i l : Int} (h : GV σ m u v (.ref φ) (dp + 1)) (hv : okV cfg.T v = true) (hs : u.s + 12 ≤ 5000) (hf : at? σ φ = some (oFo (.int 2) (.ref n) sc (.ref di) fr (.int (dp + 1)))) (hd : Dep σ fr dp) (hb : okV cfg.T sc = true) (h1 : at? σ n = some (oCa fo (.ref as))) (h2 : at? σ as = some (.list [o1, o2])) (h3 : at? σ di = some (.list [.ref f, .int i])) (h4 : at? σ f = some (oCo (.ref la) csc)) (hc : okV cfg.T csc = true) (h5 : at? σ la = some (lam l ps b)) (h6 : at? σ ps = some (.list [.int 1001, .int 1002]))
    (q : ∀ σ' s1 ds, Ext m σ σ' → LK σ' m (u.up 2 1 u.D) b (.ref s1) fr dp → at? σ' s1 = some (oSo csc (.ref ds)) → at? σ' ds = some (.dict [(1002, v), (1001, .int i)]) → Runs m Φ k σ') : Runs m Φ (k + 2) σ :=
  h.run (sr_B3 i) rfl hf hd hb hs [n, as, di, f, la, ps] [v, fo, o1, o2, .int l, .ref b, csc] rfl rfl rfl (fun _ _ _ _ _ => ⟨rfl, rfl, rfl, rfl⟩) (fun _ _ _ _ _ => ⟨h1, h2, h3, h4, h5, h6, trivial⟩) (fun _ _ _ _ _ => ⟨hv, rfl, hc, trivial⟩) fun a pr vi nd1 sc1 gt σ' E hg H X =>
    q σ' _ _ X (.of h.isM X E rfl (h.isM.dep X hd) (H.st (i := 2) (j := 1) (by decide) (by decide) rfl)) (H.obj 17 _ rfl) (H.obj 18 _ rfl)
end
section
variable {σ : H} {m : Nat} {u : Nums} {sc fr : V} {dp : Int} {Φ : H → Prop} {k r n : Nat}
theorem GV.to {u' : Nums} {v : V} (h : GV σ m u v fr dp) (e : u = u') : GV σ m u' v fr dp := e ▸ h
theorem partB {vf vr tk8 tk s1 ps2 node : Nat} {l2 : Int} {vsc : V} (h : CL σ m u (.ref vf) [.ref tk8] fr dp) (hs : u.s + 40 ≤ 5000) (i1 : at? σ vf = some (oCo (.ref vr) vsc)) (ib : okV cfg.T vsc = true) (ii : ItN σ (n + 1) vr) (t8 : at? σ tk8 = some (oCo (.ref tk) (.ref s1))) (t9 : at? σ tk = some (lam l2 ps2 node)) (t10 : at? σ ps2 = some (.list [.int 1001, .int 1002]))
    (q : ∀ σ' u' si di w vi, Ext m σ σ' → u'.s ≤ u.s + 9 → u'.D = max u.D (dp + 1) → LK σ' m u' node (.ref si) fr dp → at? σ' si = some (oSo (.ref s1) (.ref di)) → at? σ' di = some (.dict [(1002, w), (1001, .int vi)]) → ItV σ' n w → Runs m Φ k σ') : Runs m Φ (k + 2 + 1 + 3 + 1 + 2) σ := by
  have M := h.isM
  cases ii with
  | @cons n _ ps ca ln as t r' l a i g1 g2 =>
    refine run_B1 (v := .ref tk8) (p := a) h rfl (by omega) i1 ib g1.1 g1.2.1 g1.2.2.1 fun σ1 φ di s ds X1 h1 f1 d1 c1 e1 => ?_
    have M1 := h1.isM
    refine run_local (k0 := a) (v := .ref tk8) (i := 0) h1 (by show u.s + (2 : Nat) + 12 ≤ 5000; omega) (M.keep X1 g1.2.2.2.1 rfl) (.here c1 e1 (lkI_here _ _ _)) (by decide) rfl rfl fun σ2 X2 h2 => ?_
    have Y2 := X1.trans X2
    refine run_B2 (v := .ref tk8) (i := i) h2 rfl (by show u.s + (2 : Nat) + (1 : Nat) + 12 ≤ 5000; omega) (M1.keep X2 f1 rfl) (M.dep Y2 h.fr) rfl (M.keep Y2 g1.2.2.1 rfl) (M.keep Y2 g1.2.2.2.2.1 rfl) (M1.keep X2 d1 rfl) (M.keep Y2 g1.2.2.2.2.2.1 rfl) fun σ3 φ3 d3 X3 h3 f3 e3 => ?_
    have Y3 := Y2.trans X3
    have M3 := h3.isM
    refine run_items (g2.mono M Y3) h3 (by show u.s + (2 : Nat) + (1 : Nat) + (3 : Nat) + 12 ≤ 5000; omega) fun σ4 w X4 h4 I4 => ?_
    have Y4 := Y3.trans X4
    refine run_B3 h4 I4.ok (by show u.s + (2 : Nat) + (1 : Nat) + (3 : Nat) + (1 : Nat) + 12 ≤ 5000; omega) (M3.keep X4 f3 rfl) (M.dep Y4 h.fr) rfl (M.keep Y4 g1.2.2.1 rfl) (M.keep Y4 g1.2.2.2.2.1 rfl) (M3.keep X4 e3 rfl) (M.keep Y4 t8 rfl) rfl (M.keep Y4 t9 rfl) (M.keep Y4 t10 rfl) fun σ5 s5 d5 X5 h5 f5 e5 => ?_
    refine q σ5 _ _ _ w i (Y4.trans X5) ?_ ?_ h5 f5 e5 (I4.mono h4.isM X5)
    · show u.s + (2 : Nat) + (1 : Nat) + (3 : Nat) + (1 : Nat) + (2 : Nat) ≤ _; omega
    · show max (max u.D (dp + 1)) (dp + 1) = _; rw [Int.max_assoc, Int.max_self]
theorem run_C1 {a : Nat} {as : V} (h : LK σ m u r sc fr dp) (hs : u.s + 12 ≤ 5000) (h1 : at? σ r = some (oCa (.ref a) as))
    (q : ∀ σ' φ di, Ext m σ σ' → LK σ' m (u.up 1 0 (max u.D (dp + 1))) a sc (.ref φ) (dp + 1) → at? σ' φ = some (oFo (.int 2) (.ref r) sc (.ref di) fr (.int (dp + 1))) → at? σ' di = some (.list []) → Runs m Φ k σ') : Runs m Φ (k + 1) σ :=
  h.run sr_C1 hs [r] [.ref a, as] rfl rfl rfl rfl (fun _ _ _ => ⟨h1, trivial⟩) (fun _ _ _ => ⟨rfl, trivial⟩) fun a pr vl gt σ' E hg H X =>
    q σ' _ _ X (.of h.isM X E h.sc (.new (H.obj 8 _ rfl)) (H.st (i := 1) (j := 0) (by decide) (by decide) (dmax hg))) (H.obj 8 _ rfl) (H.obj 7 _ rfl)
theorem run_C2 {φ di n as a : Nat} {v fo : V} (h : GV σ m u v (.ref φ) (dp + 1)) (hv : okV cfg.T v = true) (hs : u.s + 12 ≤ 5000) (hf : at? σ φ = some (oFo (.int 2) (.ref n) sc (.ref di) fr (.int (dp + 1)))) (hd : Dep σ fr dp) (hb : okV cfg.T sc = true) (h1 : at? σ n = some (oCa fo (.ref as))) (h2 : at? σ as = some (.list [.ref a])) (h3 : at? σ di = some (.list []))
    (q : ∀ σ' φ2 d2, Ext m σ σ' → LK σ' m (u.up 1 0 (max u.D (dp + 1))) a sc (.ref φ2) (dp + 1) → at? σ' φ2 = some (oFo (.int 2) (.ref n) sc (.ref d2) fr (.int (dp + 1))) → at? σ' d2 = some (.list [v]) → Runs m Φ k σ') : Runs m Φ (k + 1) σ :=
  h.run sr_C2 rfl hf hd hb hs [n, as, di] [v, fo, .ref a] rfl rfl rfl (fun _ _ _ _ _ => ⟨rfl, rfl, rfl, rfl⟩) (fun _ _ _ _ _ => ⟨h1, h2, h3, trivial⟩) (fun _ _ _ _ _ => ⟨hv, rfl, trivial⟩) fun a pr vi nd1 sc1 gt σ' E hg H X =>
    q σ' _ _ X (.of h.isM X E hb (.new (H.obj 13 _ rfl)) (H.st (i := 1) (j := 0) (by decide) (by decide) (dmax hg))) (H.obj 13 _ rfl) (H.obj 12 _ rfl)
theorem run_C3 {φ di n as : Nat} {v fo o f : V} (h : GV σ m u v (.ref φ) (dp + 1)) (hv : okV cfg.T v = true) (hs : u.s + 12 ≤ 5000) (hf : at? σ φ = some (oFo (.int 2) (.ref n) sc (.ref di) fr (.int (dp + 1)))) (hd : Dep σ fr dp) (hb : okV cfg.T sc = true) (h1 : at? σ n = some (oCa fo (.ref as))) (h2 : at? σ as = some (.list [o])) (h3 : at? σ di = some (.list [f])) (hf' : okV cfg.T f = true)
    (q : ∀ σ', Ext m σ σ' → CL σ' m (u.up 1 0 u.D) f [v] fr dp → Runs m Φ k σ') : Runs m Φ (k + 1) σ :=
  h.run sr_C3 rfl hf hd hb hs [n, as, di] [v, fo, o, f] rfl rfl rfl (fun _ _ _ _ _ => ⟨rfl, rfl, rfl, rfl⟩) (fun _ _ _ _ _ => ⟨h1, h2, h3, trivial⟩) (fun _ _ _ _ _ => ⟨hv, hf', trivial⟩) fun a pr vi nd1 sc1 gt σ' E hg H X =>
    q σ' X (.of h.isM X E (h.isM.dep X hd) (H.obj 13 _ rfl) (H.st (i := 1) (j := 0) (by decide) (by decide) rfl))
theorem partC {base lb asb rb f j0 j2 : Nat} {w : V} (h : LK σ m u base sc fr dp) (hs : u.s + 16 ≤ 5000) (h12 : at? σ base = some (oCa (.ref lb) (.ref asb))) (h13 : at? σ lb = some (oLn (.int 1000))) (h14 : at? σ asb = some (.list [.ref rb])) (h15 : at? σ rb = some (oLn (.int 1002))) (L0 : Look σ 1000 sc (.ref f) j0) (L2 : Look σ 1002 sc w j2) (b0 : j0 ≤ 90000) (b2 : j2 ≤ 90000) (hw : isV cfg.T w (.val 50) = some false) (hw' : okV cfg.T w = true)
    (q : ∀ σ' u', Ext m σ σ' → u'.s ≤ u.s + 5 → u'.D = max u.D (dp + 1) → CL σ' m u' (.ref f) [w] fr dp → Runs m Φ k σ') : Runs m Φ (k + 1 + 1 + 1 + 1 + 1) σ := by
  have M := h.isM
  refine run_C1 h (by omega) h12 fun σ1 φ di X1 h1 f1 d1 => ?_
  have M1 := h1.isM
  refine run_local (k0 := 1000) (v := .ref f) (i := j0) h1 (by show u.s + (1 : Nat) + 12 ≤ 5000; omega) (M.keep X1 h13 rfl) (L0.mono M X1) b0 rfl rfl fun σ2 X2 h2 => ?_
  have Y2 := X1.trans X2
  refine run_C2 (v := .ref f) h2 rfl (by show u.s + (1 : Nat) + (1 : Nat) + 12 ≤ 5000; omega) (M1.keep X2 f1 rfl) (M.dep Y2 h.fr) h.sc (M.keep Y2 h12 rfl) (M.keep Y2 h14 rfl) (M1.keep X2 d1 rfl) fun σ3 φ3 d3 X3 h3 f3 e3 => ?_
  have Y3 := Y2.trans X3
  have M3 := h3.isM
  refine run_local (k0 := 1002) (v := w) (i := j2) h3 (by show u.s + (1 : Nat) + (1 : Nat) + (1 : Nat) + 12 ≤ 5000; omega) (M.keep Y3 h15 rfl) (L2.mono M Y3) b2 hw hw' fun σ4 X4 h4 => ?_
  have Y4 := Y3.trans X4
  refine run_C3 (v := w) (f := .ref f) h4 hw' (by show u.s + (1 : Nat) + (1 : Nat) + (1 : Nat) + (1 : Nat) + 12 ≤ 5000; omega) (M3.keep X4 f3 rfl) (M.dep Y4 h.fr) h.sc (M.keep Y4 h12 rfl) (M.keep Y4 h14 rfl) (M3.keep X4 e3 rfl) rfl fun σ5 X5 h5 => ?_
  refine q σ5 _ (Y4.trans X5) ?_ ?_ h5
  · show u.s + (1 : Nat) + (1 : Nat) + (1 : Nat) + (1 : Nat) + (1 : Nat) ≤ _; omega
  · show max (max u.D (dp + 1)) (dp + 1) = _; rw [Int.max_assoc, Int.max_self]
theorem run_Z {f la s0 ps body t e : Nat} {l : Int} {c ending : V} (h : CL σ m u (.ref f) [.bool false] fr dp) (hs : u.s + 12 ≤ 5000) (hf : at? σ f = some (oCo (.ref la) (.ref s0))) (h1 : at? σ la = some (lam l ps body)) (h2 : at? σ ps = some (.list [.int 1003])) (h3 : at? σ body = some (oIf (.ref t) c (.ref e))) (h4 : at? σ t = some (oLn (.int 1003))) (h5 : at? σ e = some (oCn ending)) (ho : okV cfg.T ending = true)
    (q : ∀ σ', Ext m σ σ' → GV σ' m (u.up 5 1 (max u.D (dp + 1))) ending fr dp → Runs m Φ k σ') : Runs m Φ (k + 5) σ :=
  h.run (sc := .ref s0) sr_Z rfl hs [f, la, ps, body, t, e] [.int l, c, ending] rfl rfl rfl (fun _ _ _ _ => ⟨rfl, rfl⟩) (fun _ _ _ _ => ⟨hf, h1, h2, h3, h4, h5, trivial⟩) (fun _ _ _ _ => ⟨ho, trivial⟩) fun a vi nd1 sc1 gt σ' E hg H X =>
    q σ' X (.of h.isM X E (h.isM.dep X h.fr) (H.obj 21 _ rfl) (H.st (i := 5) (j := 1) (by decide) (by decide) (dmax hg)))
end
theorem loop_run {m : Nat} (fs : List (Bool × Int)) (ending : V) (hE : Sm ending) (hB : fs.length ≤ 80000) (n : Nat) : ∀ (f : Nat) (v : V) (σ : H) (u : Nums) (fr : V) (dp : Int) (Φ : H → Prop) (k : Nat), LoopAt σ fs ending f → ItV σ n v → CL σ m u (.ref f) [v] fr dp → dp ≤ u.D → u.s + (cN fs.length n : Nat) ≤ 5000 →
    (∀ σ' u', Ext m σ σ' → u'.s ≤ u.s + (cN fs.length n : Nat) → u'.D = max u.D (dp + pkN fs n) → GV σ' m u' (gN fs ending n) fr dp → Runs m Φ k σ') → Runs m Φ (k + cN fs.length n) σ := by
  induction n with
  | zero =>
    intro f v σ u fr dp Φ k L I h hD hs q
    cases I
    cases L with
    | mk hf h2 h3 T =>
      cases T with
      | mk g gf => exact (run_Z h hs hf g.1 g.2.1 g.2.2.1 g.2.2.2.1 g.2.2.2.2.2.2.2.2.2.2.2.2.2.1 hE.ok fun σ' X h' => q σ' _ X (up_le (by decide)) rfl h').le (Nat.add_le_add_left (show 5 ≤ 12 by decide) k)
  | succ n ih =>
    intro f v σ u fr dp Φ k L I h hD hs q
    have M := h.isM
    rw [show ((cN fs.length (n + 1) : Nat) : Int) = (cN fs.length n : Nat) + (60 + 28 * fs.length : Nat) from Int.natCast_add _ _] at hs q
    cases I with
    | @cons vf _ vr vsc i1 ib ii =>
      have L' := L
      cases L' with
      | @mk la s0 ds0 o0 hf h2 h3 T =>
        cases T with
        | @mk ps body t c e t2 as2 tk ps2 node base lb asb rb l l2 g gf =>
          refine Runs.le (k := k + 16 * fs.length + cN fs.length n + 1 + 1 + 1 + 1 + 1 + 12 * fs.length + 2 + 1 + 3 + 1 + 2 + 9) ?_ (by rw [show cN fs.length (n + 1) = cN fs.length n + (60 + 28 * fs.length) from rfl]; omega)
          refine partA h (by omega) hf i1 ⟨g.1, g.2.1, g.2.2.1, g.2.2.2.1, g.2.2.2.2.1, g.2.2.2.2.2.1, g.2.2.2.2.2.2.1, g.2.2.2.2.2.2.2.1, trivial⟩ fun σ1 s1 d1 tk8 X1 h1 c1 k1 t1 => ?_
          have M1 := h1.isM
          have g' := g.2.2.2.2.2.2.2
          refine partB h1 (by show u.s + (9 : Nat) + 40 ≤ 5000; omega) (M.keep X1 i1 rfl) ib (ii.mono M X1) t1 (M.keep X1 g'.1 rfl) (M.keep X1 g'.2.1 rfl) fun σi ui si di w vi Xi bi Di hi ci ki Ig => ?_
          have bi : ui.s ≤ u.s + 9 + 9 := bi
          have Mi := hi.isM
          have Yi := X1.trans Xi
          refine forms_run fs base node σi ui _ _ _ _ _ (gf.mono M Yi) hi (by rw [Di]; exact Int.le_trans hD (Int.le_trans (Int.le_max_left _ _) (Int.le_max_left _ _))) (by omega) fun σj uj scj frj Xj sj Dj hj Sj Pj => ?_
          have Yj := Yi.trans Xj
          obtain ⟨j0, b0, L0⟩ := Sj 1000 (.ref f) 2 (by decide) (.up ci ki (by rw [lkI_ne (by decide), lkI_ne (by decide)]; rfl) rfl (.up (M1.keep Xi c1 rfl) (M1.keep Xi k1 rfl) (by rw [lkI_ne (by decide)]; rfl) rfl (.here (M.keep Yi h2 rfl) (M.keep Yi h3 rfl) (lkI_here _ _ _))))
          obtain ⟨j2, b2, L2⟩ := Sj 1002 w 0 (by decide) (.here ci ki (lkI_here _ _ _))
          have g'' := g'.2.2
          refine partC hj (by omega) (M.keep Yj g''.1 rfl) (M.keep Yj g''.2.1 rfl) (M.keep Yj g''.2.2.1 rfl) (M.keep Yj g''.2.2.2.1 rfl) L0 L2 (by omega) (by omega) Ig.una Ig.ok fun σo uo Xo bo Do ho => ?_
          have Yo := Yj.trans Xo
          refine ih f w σo uo frj _ Φ _ (L.mono M Yo) (Ig.mono Mi (Xj.trans Xo)) ho (by rw [Do]; exact Int.le_trans (Int.le_add_one (Int.le_refl _)) (Int.le_max_right _ _)) (by omega) fun σp up Xp sp Dp hp => ?_
          refine (Pj.mono (Xo.trans Xp)) σp up _ Φ k (Ext.refl _ _) (gN_ok fs hE n) hp (by omega) fun σq uq Xq sq Dq hq => ?_
          refine q σq uq (((Yo.trans Xp)).trans Xq) (by omega) ?_ hq
          rw [Dq, Dp, Do, Dj, Di, pkN_step]
          exact maxL (wF_nn fs)
inductive TreeAt (σ : H) (fs : List (Bool × Int)) (n : Nat) (ending : V) : Nat → Prop where
  | mk {root nums lams bd la lp its r ps body : Nat} {l : Int} : Lie σ [(root, oFx (.ref nums) (.ref lams) (.ref bd)), (nums, .list [.int 1000]), (lams, .list [.ref la]), (bd, oCa (.ref lp) (.ref its)), (la, lam l ps body), (lp, oLn (.int 1000)), (its, .list [.ref r])] → ItN σ n r → LoopT σ fs ending la → TreeAt σ fs n ending root
theorem max4 (D dp q : Int) : max (max D (dp + 1)) (dp + q) = max D (dp + max 1 q) := by rw [addmax, Int.max_assoc]
section
variable {σ : H} {m : Nat} {u : Nums} {sc fr : V} {dp : Int} {Φ : H → Prop} {k root n : Nat} {fs : List (Bool × Int)} {ending : V}
theorem run_T {nums lams bd la lp its r ps body : Nat} {l : Int} (h : LK σ m u root sc fr dp) (hs : u.s + 12 ≤ 5000) (g : Lie σ [(root, oFx (.ref nums) (.ref lams) (.ref bd)), (nums, .list [.int 1000]), (lams, .list [.ref la]), (bd, oCa (.ref lp) (.ref its)), (la, lam l ps body), (lp, oLn (.int 1000)), (its, .list [.ref r])])
    (q : ∀ σ' φ di f s1 ds, Ext m σ σ' → LK σ' m (u.up 4 0 (max u.D (dp + 1))) r (.ref s1) (.ref φ) (dp + 1) → at? σ' φ = some (oFo (.int 2) (.ref bd) (.ref s1) (.ref di) fr (.int (dp + 1))) → at? σ' di = some (.list [.ref f]) → at? σ' f = some (oCo (.ref la) (.ref s1)) → at? σ' s1 = some (oSo sc (.ref ds)) → at? σ' ds = some (.dict [(1000, .ref f)]) → Runs m Φ k σ') : Runs m Φ (k + 4) σ :=
  h.run sr_T hs [root, nums, lams, bd, la, lp, its] [.int l, .ref ps, .ref body, .ref r] rfl rfl rfl rfl (fun _ _ _ => g) (fun _ _ _ => ⟨rfl, rfl, trivial⟩) fun a pr vl gt σ' E hg H X =>
    q σ' _ _ _ _ _ X (.of h.isM X E rfl (.new (H.obj 23 _ rfl)) (H.st (i := 4) (j := 0) (by decide) (by decide) (dmax hg))) (H.obj 23 _ rfl) (H.obj 22 _ rfl) (H.obj 15 _ rfl) (H.obj 13 _ rfl) (H.obj 14 _ rfl)
theorem tree_run (hE : Sm ending) (hB : fs.length ≤ 80000) (hT : TreeAt σ fs n ending root) (h : LK σ m u root sc fr dp) (hD : dp ≤ u.D) (hs : u.s + (cN fs.length n + 20 : Nat) ≤ 5000)
    (q : ∀ σ' u', Ext m σ σ' → u'.s ≤ u.s + (cN fs.length n + 20 : Nat) → u'.D = max u.D (dp + max 1 (pkN fs n)) → GV σ' m u' (gN fs ending n) fr dp → Runs m Φ k σ') : Runs m Φ (k + cN fs.length n + 1 + 1 + 4) σ := by
  have M := h.isM
  cases hT with
  | @mk nums lams bd la lp its r ps body l g gi gl =>
    refine run_T h (by omega) g fun σ1 φ di f s1 ds X1 h1 f1 d1 c1 e1 e2 => ?_
    have M1 := h1.isM
    refine run_items (gi.mono M X1) h1 (by show u.s + (4 : Nat) + 12 ≤ 5000; omega) fun σ2 w X2 h2 I2 => ?_
    have Y2 := X1.trans X2
    refine run_C3 (v := w) (f := .ref f) h2 I2.ok (by show u.s + (4 : Nat) + (1 : Nat) + 12 ≤ 5000; omega) (M1.keep X2 f1 rfl) (M.dep Y2 h.fr) rfl (M.keep Y2 g.2.2.2.1 rfl) (M.keep Y2 g.2.2.2.2.2.2.1 rfl) (M1.keep X2 d1 rfl) rfl fun σ3 X3 h3 => ?_
    have Y3 := Y2.trans X3
    have Z3 := X2.trans X3
    refine loop_run fs ending hE hB n f w σ3 _ fr dp Φ k (.mk (M1.keep Z3 c1 rfl) (M1.keep Z3 e1 rfl) (M1.keep Z3 e2 rfl) (gl.mono M Y3)) (I2.mono h2.isM X3) h3 (Int.le_trans hD (Int.le_max_left _ _)) (by show u.s + (4 : Nat) + (1 : Nat) + (1 : Nat) + _ ≤ 5000; omega) fun σ4 u4 X4 s4 D4 h4 => ?_
    have s4 : u4.s ≤ u.s + (4 : Nat) + (1 : Nat) + (1 : Nat) + (cN fs.length n : Nat) := s4
    exact q σ4 u4 (Y3.trans X4) (by omega) (D4.trans (max4 _ _ _)) h4
end
noncomputable def Kp (σ σ' : H) : Prop := ∀ i o, at? σ i = some o → at? σ' i = some o
theorem Kp.refl (σ : H) : Kp σ σ := fun _ _ h => h
theorem Kp.trans {a b c : H} (h : Kp a b) (g : Kp b c) : Kp a c := fun i o x => g i o (h i o x)
theorem Kp.app (σ X : H) : Kp σ (σ ++ X) := fun i o h => at_app h
structure Nd (σ : H) (r : Nat) (ps : List V) : Prop where
  len : ps.length ≤ 10
  kind : ∃ o i, at? σ r = some o ∧ getO cfg.T 31 o = some (.int i) ∧ (i == (3 : Int)) = false ∧ ∃ f, getMO cfg.T 41 42 39 r o = some (.val f, [.ref r]) ∧ ∀ σ', Kp σ σ' → ∀ d, ∃ j σ'', callN cfg (d + 2) (.val f) [.ref r] σ' = some (.ref j, σ'') ∧ Kp σ' σ'' ∧ σ'.length ≤ j ∧ at? σ'' j = some (.list ps)
theorem Nd.kp {σ σ' : H} {r : Nat} {ps : List V} (h : Nd σ r ps) (k : Kp σ σ') : Nd σ' r ps := by
  obtain ⟨l, o, i, h1, h2, h3, f, h4, h5⟩ := h
  exact ⟨l, o, i, k _ _ h1, h2, h3, f, h4, fun σ2 k2 => h5 σ2 (k.trans k2)⟩
theorem nd_of {σ : H} {r f j J K : Nat} {o : O} {s2 : H} {i : Int} {ix okx : List Nat} {nu : List V} {objs : H} {x : O} {ps : List V} (run : ∀ d, callO ov0 (smC K okx [] noCmp) (d + 2) (.val f) [.ref 0] (x :: objs) = some (.ref J, x :: s2)) (hK : K = objs.length + 1) (hJ : J = j + objs.length + 1) (hj : ∀ L, ∃ l, at? (x :: s2) J = some (.list l) ∧ trL ⟨r :: ix, nu, L⟩ l = ps) (hl : ps.length ≤ 10) (h : at? σ r = some o) (ho : ∀ L, trO ⟨r :: ix, nu, L⟩ x = o) (hk : getO cfg.T 31 o = some (.int i)) (h3 : (i == (3 : Int)) = false) (hm : getMO cfg.T 41 42 39 r o = some (.val f, [.ref r]))
    (hlen : ix.length = objs.length) (known : ∀ L, Kn ⟨r :: ix, nu, L⟩ σ 1 objs) (hok : ∀ L, OkL ⟨r :: ix, nu, L⟩ okx) (hne : ∀ i a, at? ix i = some a → a ≠ r) : Nd σ r ps := by
  subst hK hJ
  refine ⟨hl, o, i, h, hk, h3, f, hm, fun σ' kp d => ?_⟩
  have K : Rest (objs.length + 1) okx [] noCmp ⟨r :: ix, nu, σ'.length⟩ σ' := ⟨congrArg (· + 1) hlen, (hok _).all, fun p hp => (by cases hp), fun _ _ _ _ h => (by cases h), fun i a h c => hne i a h (Option.some.inj c).symm, rfl⟩
  obtain ⟨⟨z1, z2⟩, g1, g2, g3⟩ := small_call (s := x :: objs) (e := 0) (congrArg (· + 1) hlen) K (fun _ => ov0_ok) (at1 (by rw [ho]; exact kp _ _ h) fun i o h => kp _ _ ((known σ'.length).all i o h)) (run d)
  have g2 : z1 = .ref (adT ⟨r :: ix, nu, σ'.length⟩ (j + objs.length + 1)) := g2
  obtain ⟨l, e1, e2⟩ := hj σ'.length
  have ej : adT ⟨r :: ix, nu, σ'.length⟩ (j + objs.length + 1) = σ'.length + j := by
    unfold adT
    cases hc : at? (r :: ix) (j + objs.length + 1) with
    | some a => have := at_lt hc; rw [List.length_cons, hlen] at this; omega
    | none => show σ'.length + (j + objs.length + 1 - (ix.length + 1)) = _; rw [hlen]; omega
  have g5 := g3.obj _ _ e1
  rw [ej] at g5 g2
  refine ⟨σ'.length + j, z2, by rw [← g2]; exact g1, fun i o hi => ?_, Nat.le_add_right _ _, ?_⟩
  · by_cases hc : r = i
    · have := g3.obj 0 _ rfl
      have : at? z2 r = some (trO ⟨r :: ix, nu, σ'.length⟩ x) := this
      rw [ho] at this
      rw [← hc] at hi ⊢
      rw [kp _ _ h] at hi
      rw [this, ← Option.some.inj hi]
    · exact g3.ext i o (fun c => hc (Option.some.inj c)) hi
  · rw [← e2]; exact g5
theorem nr_0 (x : O) (d : Nat) : callO ov0 (smC 1 [] [] noCmp) (d + 2) (.val 484) [.ref 0] [x] = some (.ref 1, [x, .list []]) := by kernel_rfl
theorem nr_if (d : Nat) : callO ov0 (smC 1 [0, 1, 2] [] noCmp) (d + 2) (.val 576) [.ref 0] [oIf (.opq 0) (.opq 1) (.opq 2)] = some (.ref 1, [oIf (.opq 0) (.opq 1) (.opq 2), .list [.opq 0, .opq 1, .opq 2]]) := by kernel_rfl
theorem nr_la (d : Nat) : callO ov0 (smC 1 [3] [] noCmp) (d + 2) (.val 609) [.ref 0] [oLa (.opq 0) (.opq 1) (.opq 2) (.opq 3)] = some (.ref 1, [oLa (.opq 0) (.opq 1) (.opq 2) (.opq 3), .list [.opq 3]]) := by kernel_rfl
theorem nr_ca1 (d : Nat) : callO ov0 (smC 2 [0, 1] [] noCmp) (d + 2) (.val 656) [.ref 0] [oCa (.opq 0) (.ref 1), .list [.opq 1]] = some (.ref 3, [oCa (.opq 0) (.ref 1), .list [.opq 1], .list [.opq 0], .list [.opq 0, .opq 1]]) := by kernel_rfl
theorem nr_ca2 (d : Nat) : callO ov0 (smC 2 [0, 1, 2] [] noCmp) (d + 2) (.val 656) [.ref 0] [oCa (.opq 0) (.ref 1), .list [.opq 1, .opq 2]] = some (.ref 3, [oCa (.opq 0) (.ref 1), .list [.opq 1, .opq 2], .list [.opq 0], .list [.opq 0, .opq 1, .opq 2]]) := by kernel_rfl
theorem nr_sq2 (d : Nat) : callO ov0 (smC 2 [0, 1] [] noCmp) (d + 2) (.val 689) [.ref 0] [oSq (.ref 1), .list [.opq 0, .opq 1]] = some (.ref 2, [oSq (.ref 1), .list [.opq 0, .opq 1], .list [.opq 0, .opq 1]]) := by kernel_rfl
theorem nr_sq3 (d : Nat) : callO ov0 (smC 2 [0, 1, 2] [] noCmp) (d + 2) (.val 689) [.ref 0] [oSq (.ref 1), .list [.opq 0, .opq 1, .opq 2]] = some (.ref 2, [oSq (.ref 1), .list [.opq 0, .opq 1, .opq 2], .list [.opq 0, .opq 1, .opq 2]]) := by kernel_rfl
theorem nr_fx (d : Nat) : callO ov0 (smC 2 [0, 1, 2] [] noCmp) (d + 2) (.val 722) [.ref 0] [oFx (.opq 0) (.ref 1) (.opq 1), .list [.opq 2]] = some (.ref 3, [oFx (.opq 0) (.ref 1) (.opq 1), .list [.opq 2], .list [.opq 1], .list [.opq 2, .opq 1]]) := by kernel_rfl
section
variable {σ : H} {r : Nat}
theorem noix (r : Nat) : ∀ i a, at? ([] : List Nat) i = some a → a ≠ r := fun i a h => by cases h
theorem oneix {as : Nat} {C : PySem.Addr} {fs : List (Nat × V)} {xs : List V} (h : at? σ r = some (.inst C fs)) (g : at? σ as = some (.list xs)) : ∀ i a, at? [as] i = some a → a ≠ r := fun i a e c => by
  have e : a = as := by
    cases i with
    | zero => exact (Option.some.inj e).symm
    | succ i => cases e
  rw [← e, c, h] at g
  cases g
theorem nd_cn {v : V} (h : at? σ r = some (oCn v)) : Nd σ r [] := nd_of (j := 0) (ix := []) (nu := [v]) (nr_0 (oCn (.opq 0))) rfl rfl (fun _ => ⟨[], rfl, rfl⟩) (by decide) h (fun _ => rfl) (i := 0) rfl rfl rfl rfl (fun _ => trivial) (fun _ => trivial) (noix r)
theorem nd_ln {v : V} (h : at? σ r = some (oLn v)) : Nd σ r [] := nd_of (j := 0) (ix := []) (nu := [v]) (nr_0 (oLn (.opq 0))) rfl rfl (fun _ => ⟨[], rfl, rfl⟩) (by decide) h (fun _ => rfl) (i := 1) rfl rfl rfl rfl (fun _ => trivial) (fun _ => trivial) (noix r)
theorem nd_gn {v : V} (h : at? σ r = some (oGn v)) : Nd σ r [] := nd_of (j := 0) (ix := []) (nu := [v]) (nr_0 (oGn (.opq 0))) rfl rfl (fun _ => ⟨[], rfl, rfl⟩) (by decide) h (fun _ => rfl) (i := 2) rfl rfl rfl rfl (fun _ => trivial) (fun _ => trivial) (noix r)
theorem nd_if {a b c : Nat} (h : at? σ r = some (oIf (.ref a) (.ref b) (.ref c))) : Nd σ r [.ref a, .ref b, .ref c] := nd_of (j := 0) (ix := []) (nu := [.ref a, .ref b, .ref c]) nr_if rfl rfl (fun _ => ⟨_, rfl, rfl⟩) (Nat.le_of_ble_eq_true rfl) h (fun _ => rfl) (i := 6) rfl rfl rfl rfl (fun _ => trivial) (fun _ => ⟨rfl, rfl, rfl, trivial⟩) (noix r)
theorem nd_la {l : Int} {ps b : Nat} (h : at? σ r = some (lam l ps b)) : Nd σ r [.ref b] := nd_of (j := 0) (ix := []) (nu := [.int l, .ref ps, .int (-1), .ref b]) nr_la rfl rfl (fun _ => ⟨_, rfl, rfl⟩) (Nat.le_of_ble_eq_true rfl) h (fun _ => rfl) (i := 7) rfl rfl rfl rfl (fun _ => trivial) (fun _ => ⟨rfl, trivial⟩) (noix r)
theorem nd_ca1 {f as a : Nat} (h : at? σ r = some (oCa (.ref f) (.ref as))) (g : at? σ as = some (.list [.ref a])) : Nd σ r [.ref f, .ref a] := nd_of (j := 1) (ix := [as]) (nu := [.ref f, .ref a]) nr_ca1 rfl rfl (fun _ => ⟨_, rfl, rfl⟩) (Nat.le_of_ble_eq_true rfl) h (fun _ => rfl) (i := 8) rfl rfl rfl rfl (fun _ => ⟨g, trivial⟩) (fun _ => ⟨rfl, rfl, trivial⟩) (oneix h g)
theorem nd_ca2 {f as a b : Nat} (h : at? σ r = some (oCa (.ref f) (.ref as))) (g : at? σ as = some (.list [.ref a, .ref b])) : Nd σ r [.ref f, .ref a, .ref b] := nd_of (j := 1) (ix := [as]) (nu := [.ref f, .ref a, .ref b]) nr_ca2 rfl rfl (fun _ => ⟨_, rfl, rfl⟩) (Nat.le_of_ble_eq_true rfl) h (fun _ => rfl) (i := 8) rfl rfl rfl rfl (fun _ => ⟨g, trivial⟩) (fun _ => ⟨rfl, rfl, rfl, trivial⟩) (oneix h g)
theorem nd_sq2 {as a b : Nat} (h : at? σ r = some (oSq (.ref as))) (g : at? σ as = some (.list [.ref a, .ref b])) : Nd σ r [.ref a, .ref b] := nd_of (j := 0) (ix := [as]) (nu := [.ref a, .ref b]) nr_sq2 rfl rfl (fun _ => ⟨_, rfl, rfl⟩) (Nat.le_of_ble_eq_true rfl) h (fun _ => rfl) (i := 9) rfl rfl rfl rfl (fun _ => ⟨g, trivial⟩) (fun _ => ⟨rfl, rfl, trivial⟩) (oneix h g)
theorem nd_sq3 {as a b c : Nat} (h : at? σ r = some (oSq (.ref as))) (g : at? σ as = some (.list [.ref a, .ref b, .ref c])) : Nd σ r [.ref a, .ref b, .ref c] := nd_of (j := 0) (ix := [as]) (nu := [.ref a, .ref b, .ref c]) nr_sq3 rfl rfl (fun _ => ⟨_, rfl, rfl⟩) (Nat.le_of_ble_eq_true rfl) h (fun _ => rfl) (i := 9) rfl rfl rfl rfl (fun _ => ⟨g, trivial⟩) (fun _ => ⟨rfl, rfl, rfl, trivial⟩) (oneix h g)
theorem nd_fx {n b as a : Nat} (h : at? σ r = some (oFx (.ref n) (.ref as) (.ref b))) (g : at? σ as = some (.list [.ref a])) : Nd σ r [.ref a, .ref b] := nd_of (j := 1) (ix := [as]) (nu := [.ref n, .ref b, .ref a]) nr_fx rfl rfl (fun _ => ⟨_, rfl, rfl⟩) (Nat.le_of_ble_eq_true rfl) h (fun _ => rfl) (i := 11) rfl rfl rfl rfl (fun _ => ⟨g, trivial⟩) (fun _ => ⟨rfl, rfl, rfl, trivial⟩) (oneix h g)
end
theorem listAt_of {σ : H} {i : Nat} {xs : List V} (h : at? σ i = some (.list xs)) : listAt σ i = some xs := by
  unfold listAt
  rw [h]; rfl
theorem set_eq {σ : H} {i : Nat} {o y : O} (h : at? σ i = some o) : at? (setAt σ i y) i = some y := by
  rw [at_setAt, if_pos rfl, h]; rfl
theorem set_ne {σ : H} {i j : Nat} {y : O} (h : i ≠ j) : at? (setAt σ i y) j = at? σ j := by
  rw [at_setAt, if_neg h]
theorem Kp.set {σ0 σ : H} (k : Kp σ0 σ) {w : Nat} (hw : σ0.length ≤ w) (X : O) : Kp σ0 (setAt σ w X) := fun i o h => by
  have := at_lt h
  rw [set_ne (by omega)]
  exact k i o h
theorem app_step {d N w : Nat} {p : V} {vs : List V} {l : Loc} {σ : H} (hl : lk l 38 = some (.ref w)) (h4 : lk l 40 = some p) (h : at? σ w = some (.list vs)) (hn : vs.length ≤ 10000) : exB cfg (callN cfg (d + 1)) (N + 6) l [.expr (.meth (.nm 38) 42 [.nm 40])] σ = some (.next, l, setAt σ w (.list (vs ++ [p]))) := by
  have e : evL (evE cfg (callN cfg (d + 1)) (N + 3) l) [.nm 40] σ = some ([p], σ) := by
    show (evE cfg (callN cfg (d + 1)) (N + 2 + 1) l (.nm 40) σ).bind _ = _
    rw [evE_nm, h4]; rfl
  rw [exB_cons, exS_expr, evE_meth, evE_nm, hl]
  show seqR _ ((((at? σ w).bind (getMO cfg.T 42 42 39 w)).bind fun f => (evL (evE cfg (callN cfg (d + 1)) (N + 3) l) [.nm 40] σ).bind fun q => callN cfg (d + 1) f.1 (f.2 ++ q.1) q.2).bind fun p => gd (dropV p.1) (some (Fl.next, l, p.2))) = _
  rw [h, e]
  show seqR _ (((listAt σ w).bind fun xs => gd (Nat.ble xs.length 10000) (some (V.none, setAt σ w (.list (xs ++ [p]))))).bind fun p => gd (dropV p.1) (some (Fl.next, l, p.2))) = _
  rw [listAt_of h]
  show seqR _ ((gd (Nat.ble vs.length 10000) (some (V.none, setAt σ w (.list (vs ++ [p]))))).bind fun p => gd (dropV p.1) (some (Fl.next, l, p.2))) = _
  rw [Nat.ble_eq_true_of_le hn]
  rfl
theorem at_mid {α : Type} (xs : List α) : ∀ ys, at? (xs ++ ys) xs.length = at? ys 0 := by
  induction xs with
  | nil => exact fun _ => rfl
  | cons a l ih => exact ih
theorem exI_list {cf : CF} {n : Nat} {l : Loc} {j k : Nat} {b : List MS} {σ : H} {xs : List V} (h : at? σ j = some (.list xs)) : exI cfg cf (n + 1) l [40] j k b σ = match at? xs k with
    | some v => loopR (fun l1 σ1 => exI cfg cf n l1 [40] j (k + 1) b σ1) (exB cfg cf n ((40, v) :: l) b σ)
    | none => gd (Nat.ble xs.length 10000) (some (.next, l, σ)) := by
  show (listAt σ j).bind _ = _
  rw [listAt_of h]; rfl
theorem appLoop {d : Nat} {σ0 : H} {w j : Nat} (hj : j ≠ w) (hw : σ0.length ≤ w) (ps : List V) : ∀ (done vs : List V) (σ : H) (N : Nat) (l : Loc), ps.length ≤ N → lk l 38 = some (.ref w) → Kp σ0 σ → at? σ j = some (.list (done ++ ps)) → (done ++ ps).length ≤ 9000 → at? σ w = some (.list vs) → vs.length + ps.length ≤ 9000 →
    ∃ σ' l', exI cfg (callN cfg (d + 1)) (N + 20) l [40] j done.length [.expr (.meth (.nm 38) 42 [.nm 40])] σ = some (.next, l', σ') ∧ Kp σ0 σ' ∧ at? σ' w = some (.list (vs ++ ps)) ∧ lk l' 38 = some (.ref w) ∧ lk l' 37 = lk l 37 := by
  induction ps with
  | nil =>
    intro done vs σ N l hN hl hk h1 h2 h3 h4
    refine ⟨σ, l, ?_, hk, by rw [List.append_nil]; exact h3, hl, rfl⟩
    rw [exI_list h1, at_mid done]
    show gd (Nat.ble (done ++ []).length 10000) _ = _
    rw [Nat.ble_eq_true_of_le (Nat.le_trans h2 (by decide))]; rfl
  | cons p ps ih =>
    intro done vs σ N l hN hl hk h1 h2 h3 h4
    rw [List.length_cons] at hN h4
    obtain ⟨N, rfl⟩ : ∃ M, N = M + 1 := ⟨N - 1, by omega⟩
    have e1 : done ++ p :: ps = (done ++ [p]) ++ ps := by rw [List.append_assoc]; rfl
    have e2 : vs ++ p :: ps = (vs ++ [p]) ++ ps := by rw [List.append_assoc]; rfl
    have el : ∀ xs : List V, (xs ++ [p]).length = xs.length + 1 := fun xs => List.length_append
    obtain ⟨σ', l', g1, g2, g3, g4, g5⟩ := ih (done ++ [p]) (vs ++ [p]) (setAt σ w (.list (vs ++ [p]))) N ((40, p) :: l) (by omega) hl (hk.set hw _) (by rw [set_ne hj.symm, ← e1]; exact h1) (by rw [← e1]; exact h2) (set_eq h3) (by rw [el]; omega)
    refine ⟨σ', l', ?_, g2, by rw [e2]; exact g3, g4, g5⟩
    rw [show N + 1 + 20 = N + 20 + 1 from by omega, exI_list h1, at_mid done]
    show loopR _ (exB cfg (callN cfg (d + 1)) (N + 14 + 6) ((40, p) :: l) [.expr (.meth (.nm 38) 42 [.nm 40])] σ) = _
    rw [app_step (l := (40, p) :: l) hl rfl h3 (by omega)]
    rw [el] at g1
    exact g1
noncomputable def alT : ME := .cmp CmpOp.NotEq (.nm 38) (.list [])
noncomputable def alP : MS := .asgN 30 (.meth (.nm 38) 39 [])
noncomputable def alK : MS := .ifS (.cmp CmpOp.Eq (.attr (.nm 30) 31) (.cst (.int 3))) [.asgS (.nm 37) (.attr (.nm 30) 12) (.cst (.bool true))] []
noncomputable def alF : MS := .forL [40] (.meth (.nm 30) 41 []) [.expr (.meth (.nm 38) 42 [.nm 40])]
section
variable {d n w r : Nat} {vs : List V} {v : V} {l : Loc} {σ : H} {cf : CF}
theorem alT_eq (hl : lk l 38 = some (.ref w)) (hv : at? σ w = some (.list vs)) (hn : vs.length ≤ 10000) : evT cfg cf (n + 5) l alT σ = some (!vs.isEmpty, σ ++ [.list []]) := by
  unfold alT
  rw [evT_cmp, evE_nm, hl]
  show ((listAt (σ ++ [.list []]) w).bind fun xs => (listAt (σ ++ [O.list []]) σ.length).bind fun ys => cmpL' .NotEq xs ys).map (fun t => (t, σ ++ [O.list []])) = _
  rw [listAt_of (at_app hv), listAt_of (at_end _ _)]
  show (gd (Nat.ble vs.length 10000) (some (!vs.isEmpty))).map _ = _
  rw [Nat.ble_eq_true_of_le hn]; rfl
theorem alP_eq (hl : lk l 38 = some (.ref w)) (hv : at? σ w = some (.list (vs ++ [v]))) (hn : vs.length ≤ 9000) : exS cfg (callN cfg (d + 1)) (n + 5) l alP σ = some (.next, (30, v) :: l, setAt σ w (.list vs)) := by
  have e : popE (vs ++ [v]) = some (v, vs) := by
    unfold popE
    rw [Nat.ble_eq_true_of_le (by rw [List.length_append]; exact Nat.succ_le_succ (Nat.le_trans hn (by decide))), List.getLast?_concat, List.dropLast_concat]
    rfl
  show (evE cfg (callN cfg (d + 1)) (n + 3 + 1) l (.meth (.nm 38) 39 []) σ).map (fun p => (Fl.next, (30, p.1) :: l, p.2)) = _
  rw [evE_meth, evE_nm, hl]
  show (((at? σ w).bind (getMO cfg.T 39 42 39 w)).bind fun f => (evL (evE cfg (callN cfg (d + 1)) (n + 3) l) [] σ).bind fun q => callN cfg (d + 1) f.1 (f.2 ++ q.1) q.2).map (fun p => (Fl.next, (30, p.1) :: l, p.2)) = _
  rw [hv]
  show ((listAt σ w).bind fun xs => (popE xs).map fun p => (p.1, setAt σ w (.list p.2))).map (fun p => (Fl.next, (30, p.1) :: l, p.2)) = _
  rw [listAt_of hv]
  show ((popE (vs ++ [v])).map fun p => (p.1, setAt σ w (.list p.2))).map (fun p => (Fl.next, (30, p.1) :: l, p.2)) = _
  rw [e]; rfl
theorem alK_eq {o : O} {i : Int} (hl : lk l 30 = some (.ref r)) (h1 : at? σ r = some o) (h2 : getO cfg.T 31 o = some (.int i)) (h3 : (i == (3 : Int)) = false) : exS cfg cf (n + 6) l alK σ = some (.next, l, σ) := by
  have t : evT cfg cf (n + 5) l (.cmp CmpOp.Eq (.attr (.nm 30) 31) (.cst (.int 3))) σ = some (false, σ) := by
    rw [evT_cmp, evE_attr, evE_nm, hl]
    show ((((at? σ r).bind (getO cfg.T 31)).map fun u => (u, σ)).bind fun p => (evE cfg cf (n + 4) l (.cst (.int 3)) p.2).bind fun q => (cmpB cfg.T .Eq p.1 q.1 q.2).map fun t => (t, q.2)) = _
    rw [h1]
    show (((getO cfg.T 31 o).map fun u => (u, σ)).bind fun p => (evE cfg cf (n + 4) l (.cst (.int 3)) p.2).bind fun q => (cmpB cfg.T .Eq p.1 q.1 q.2).map fun t => (t, q.2)) = _
    rw [h2]
    show some ((i == (3 : Int)), σ) = _
    rw [h3]
  show (evT cfg cf (n + 5) l (.cmp CmpOp.Eq (.attr (.nm 30) 31) (.cst (.int 3))) σ).bind (fun p => exB cfg cf (n + 5) l (bif p.1 then _ else []) p.2) = _
  rw [t]; rfl
theorem alF_eq {o : O} {f j : Nat} {σ1 : H} (hl : lk l 30 = some (.ref r)) (h1 : at? σ r = some o) (hm : getMO cfg.T 41 42 39 r o = some (.val f, [.ref r])) (hc : cf (.val f) [.ref r] σ = some (.ref j, σ1)) {ps : List V} (hp : at? σ1 j = some (.list ps)) : exS cfg cf (n + 5) l alF σ = exI cfg cf (n + 4) l [40] j 0 [.expr (.meth (.nm 38) 42 [.nm 40])] σ1 := by
  have e : evE cfg cf (n + 3 + 1) l (.meth (.nm 30) 41 []) σ = some (.ref j, σ1) := by
    rw [evE_meth, evE_nm, hl]
    show (((at? σ r).bind (getMO cfg.T 41 42 39 r)).bind fun f => (evL (evE cfg cf (n + 3) l) [] σ).bind fun q => cf f.1 (f.2 ++ q.1) q.2) = _
    rw [h1]
    show ((getMO cfg.T 41 42 39 r o).bind fun f => (evL (evE cfg cf (n + 3) l) [] σ).bind fun q => cf f.1 (f.2 ++ q.1) q.2) = _
    rw [hm]
    exact hc
  show (evE cfg cf (n + 3 + 1) l (.meth (.nm 30) 41 []) σ).bind (fun p => (refV p.1).bind fun j => (listAt p.2 j.1).bind fun _ => exI cfg cf (n + 4) l [40] j.1 0 [.expr (.meth (.nm 38) 42 [.nm 40])] p.2) = _
  rw [e]
  show (listAt σ1 j).bind _ = _
  rw [listAt_of hp]; rfl
end
inductive Stk (σ : H) : List V → Nat → Prop where
  | nil : Stk σ [] 0
  | cons {vs ps : List V} {r k : Nat} : Nd σ r ps → Stk σ (vs ++ ps) k → Stk σ (vs ++ [.ref r]) (k + 1)
theorem Stk.len {σ : H} {vs : List V} {k : Nat} (h : Stk σ vs k) : vs.length ≤ k := by
  induction h with
  | nil => exact Nat.le_refl _
  | cons _ _ ih => rw [List.length_append] at ih ⊢; exact Nat.add_le_add_right (Nat.le_trans (Nat.le_add_right _ _) ih) 1
theorem Stk.kp {σ σ' : H} {vs : List V} {k : Nat} (h : Stk σ vs k) (kp : Kp σ σ') : Stk σ' vs k := by
  induction h with
  | nil => exact .nil
  | cons h1 _ ih => exact .cons (h1.kp kp) ih
noncomputable def alB : List MS := [alP, alK, alF]
theorem alB_eq {d M w r : Nat} {vs : List V} {l l1 : Loc} {σ σ1 σ2 : H} {o : O} {i : Int} {f j : Nat} {ps : List V} (hl : lk l 38 = some (.ref w)) (hv : at? σ w = some (.list (vs ++ [.ref r]))) (hn : vs.length ≤ 9000) (h1 : at? (setAt σ w (.list vs)) r = some o) (h2 : getO cfg.T 31 o = some (.int i)) (h3 : (i == (3 : Int)) = false) (hm : getMO cfg.T 41 42 39 r o = some (.val f, [.ref r])) (hc : callN cfg (d + 1) (.val f) [.ref r] (setAt σ w (.list vs)) = some (.ref j, σ1)) (hp : at? σ1 j = some (.list ps)) (hi : exI cfg (callN cfg (d + 1)) (M + 20) ((30, .ref r) :: l) [40] j 0 [.expr (.meth (.nm 38) 42 [.nm 40])] σ1 = some (.next, l1, σ2)) : exB cfg (callN cfg (d + 1)) (M + 24) l alB σ = some (.next, l1, σ2) := by
  unfold alB
  rw [exB_cons, show M + 23 = M + 18 + 5 from rfl, alP_eq hl hv hn]
  show exB cfg (callN cfg (d + 1)) (M + 22 + 1) ((30, .ref r) :: l) [alK, alF] (setAt σ w (.list vs)) = _
  rw [exB_cons, show M + 22 = M + 16 + 6 from rfl, alK_eq rfl h1 h2 h3]
  show exB cfg (callN cfg (d + 1)) (M + 21 + 1) ((30, .ref r) :: l) [alF] (setAt σ w (.list vs)) = _
  rw [exB_cons, show M + 21 = M + 16 + 5 from rfl, alF_eq rfl h1 hm hc hp, show M + 16 + 4 = M + 20 from rfl, hi]
  rfl
theorem alLoop {d : Nat} {σ0 : H} {w fd : Nat} (hw : σ0.length ≤ w) (k : Nat) : ∀ (vs : List V) (σ : H) (N : Nat) (l : Loc), Stk σ0 vs k → k ≤ 8000 → 40 ≤ N → lk l 38 = some (.ref w) → lk l 37 = some (.ref fd) → Kp σ0 σ → at? σ w = some (.list vs) →
    ∃ σ' l', exS cfg (callN cfg (d + 2)) (N + k) l (.whileS alT alB) σ = some (.next, l', σ') ∧ Kp σ0 σ' ∧ lk l' 37 = some (.ref fd) := by
  induction k with
  | zero =>
    intro vs σ N l h hk hN hl h37 kp hv
    cases h
    obtain ⟨M, rfl⟩ : ∃ M, N = M + 6 := ⟨N - 6, by omega⟩
    refine ⟨σ ++ [.list []], l, ?_, kp.trans (Kp.app _ _), h37⟩
    show exS cfg (callN cfg (d + 2)) (M + 5 + 1) l (.whileS alT alB) σ = _
    rw [exS_while, alT_eq hl hv (Nat.zero_le _)]; rfl
  | succ k ih =>
    intro vs σ N l h hk hN hl h37 kp hv
    have hlen := h.len
    cases h with
    | @cons vs ps r _ hn hs =>
      have hlen2 := hs.len
      rw [List.length_append, show [V.ref r].length = 1 from rfl] at hlen
      rw [List.length_append] at hlen2
      have hv1 : at? (σ ++ [.list []]) w = some (.list (vs ++ [.ref r])) := at_app hv
      have kpb : Kp σ0 (setAt (σ ++ [.list []]) w (.list vs)) := (kp.trans (Kp.app _ _)).set hw _
      obtain ⟨lp, o, i, n1, n2, n3, f, n4, n5⟩ := hn
      obtain ⟨j, σ1, c1, c2, c3, c4⟩ := n5 _ kpb d
      have hjw : j ≠ w := by
        have h1 := at_lt (set_eq (y := .list vs) hv1)
        omega
      obtain ⟨M, rfl⟩ : ∃ M, N = M + 40 := ⟨N - 40, by omega⟩
      obtain ⟨σ2, l1, g1, g2, g3, g4, g5⟩ := appLoop (d := d + 1) (σ0 := σ0) hjw hw ps [] vs σ1 (M + k + 16) ((30, .ref r) :: l) (by omega) hl (kpb.trans c2) c4 (by show ps.length ≤ _; omega) (c2 _ _ (set_eq hv1)) (by omega)
      obtain ⟨σ3, l2, q1, q2, q3⟩ := ih (vs ++ ps) σ2 (M + 40) l1 hs (by omega) (by omega) g4 (g5.trans h37) g2 g3
      refine ⟨σ3, l2, ?_, q2, q3⟩
      have hE : (vs ++ [V.ref r]).isEmpty = false := by cases vs <;> rfl
      have tt := alT_eq (cf := callN cfg (d + 2)) (n := M + k + 35) hl hv (by rw [List.length_append, show [V.ref r].length = 1 from rfl]; omega)
      rw [hE] at tt
      rw [show M + 40 + (k + 1) = M + k + 35 + 5 + 1 from by omega, exS_while, tt]
      show loopR (fun l1 σ1 => exS cfg (callN cfg (d + 2)) (M + k + 40) l1 (.whileS alT alB) σ1) (exB cfg (callN cfg (d + 1 + 1)) (M + k + 16 + 24) l alB (σ ++ [.list []])) = _
      rw [alB_eq hl hv1 (by omega) (kpb _ _ n1) n2 n3 n4 c1 c4 g1]
      show exS cfg (callN cfg (d + 2)) (M + k + 40) l1 (.whileS alT alB) σ2 = _
      rw [show M + k + 40 = M + 40 + k from by omega]
      exact q1
noncomputable def TrS (σ : H) (ps : List V) (k : Nat) : Prop := ∀ vs j, Stk σ vs j → Stk σ (vs ++ ps) (j + k)
theorem TrS.nil (σ : H) : TrS σ [] 0 := fun vs j h => by rw [List.append_nil]; exact h
theorem TrS.app {σ : H} {p q : List V} {a b : Nat} (h : TrS σ p a) (g : TrS σ q b) : TrS σ (p ++ q) (a + b) := fun vs j x => by
  rw [← List.append_assoc, ← Nat.add_assoc]; exact g _ _ (h _ _ x)
theorem TrS.cons {σ : H} {p : V} {q : List V} {a b : Nat} (h : TrS σ [p] a) (g : TrS σ q b) : TrS σ (p :: q) (a + b) := h.app g
theorem TrS.nd {σ : H} {r k : Nat} {ps : List V} (h : Nd σ r ps) (g : TrS σ ps k) : TrS σ [.ref r] (k + 1) := fun vs j x => .cons h (g _ _ x)
theorem TrS.stk {σ : H} {ps : List V} {k : Nat} (h : TrS σ ps k) : Stk σ ps k := by have := h [] 0 .nil; rwa [Nat.zero_add] at this
theorem TrS.cn {σ : H} {r : Nat} {v : V} (h : at? σ r = some (oCn v)) : TrS σ [.ref r] 1 := .nd (nd_cn h) (.nil σ)
theorem TrS.ln {σ : H} {r : Nat} {v : V} (h : at? σ r = some (oLn v)) : TrS σ [.ref r] 1 := .nd (nd_ln h) (.nil σ)
theorem TrS.gn {σ : H} {r : Nat} {v : V} (h : at? σ r = some (oGn v)) : TrS σ [.ref r] 1 := .nd (nd_gn h) (.nil σ)
theorem FormAt.tr {σ : H} {f : Bool × Int} {b r k : Nat} (h : FormAt σ f b r) (g : TrS σ [.ref b] k) : ∃ k', k' ≤ k + 5 ∧ TrS σ [.ref r] k' := by
  cases h with
  | l0 h => exact ⟨_, by omega, .nd (nd_if h.1) ((TrS.cn h.2.1).cons (g.cons (.cn h.2.2.1)))⟩
  | l1 h => exact ⟨_, by omega, .nd (nd_sq3 h.1 h.2.1) ((TrS.cn h.2.2.1).cons ((TrS.cn h.2.2.2.1).cons g))⟩
  | l2 h => exact ⟨_, by omega, .nd (nd_ca1 h.1 h.2.2.2.1) ((TrS.nd (nd_la h.2.1) g).cons (.cn h.2.2.2.2.1))⟩
  | l3 h => exact ⟨_, by omega, .nd (nd_fx h.1 h.2.2.1) ((TrS.nd (nd_la h.2.2.2.1) (.cn h.2.2.2.2.1)).cons g)⟩
  | l4 h => exact ⟨_, by omega, .nd (nd_ca2 h.1 h.2.2.1) ((TrS.gn h.2.1).cons ((TrS.nd (nd_la h.2.2.2.1) (.cn h.2.2.2.2.2.1)).cons (.nd (nd_la h.2.2.2.2.2.2.1) g)))⟩
  | l5 h => exact ⟨_, by omega, .nd (nd_ca1 h.1 h.2.2.1) ((TrS.gn h.2.1).cons (.nd (nd_la h.2.2.2.1) g))⟩
  | w0 h => exact ⟨_, by omega, .nd (nd_ca1 h.1 h.2.2.2.2.1) ((TrS.nd (nd_la h.2.1) (.ln h.2.2.2.1)).cons g)⟩
  | w1 h => exact ⟨_, by omega, .nd (nd_sq2 h.1 h.2.1) (g.cons (.cn h.2.2.1))⟩
  | w2 h => exact ⟨_, by omega, .nd (nd_if h.1) (g.cons ((TrS.cn h.2.1).cons (.cn h.2.2.1)))⟩
  | w3 h => exact ⟨_, by omega, .nd (nd_ca2 h.1 h.2.2.2.2.1) ((TrS.nd (nd_la h.2.1) (.ln h.2.2.2.1)).cons ((TrS.cn h.2.2.2.2.2.1).cons g))⟩
theorem FormsAt.tr {σ : H} {fs : List (Bool × Int)} {b o : Nat} (h : FormsAt σ fs b o) : ∀ k, TrS σ [.ref b] k → ∃ k', k' ≤ k + 5 * fs.length ∧ TrS σ [.ref o] k' := by
  induction h with
  | nil => exact fun k g => ⟨k, Nat.le_add_right _ _, g⟩
  | cons h1 _ ih =>
    intro k g
    obtain ⟨k1, b1, g1⟩ := h1.tr g
    obtain ⟨k2, b2, g2⟩ := ih k1 g1
    exact ⟨k2, by rw [List.length_cons]; omega, g2⟩
theorem ItN.tr {σ : H} {n r : Nat} (h : ItN σ n r) : ∃ k, k ≤ 1 + 4 * n ∧ TrS σ [.ref r] k := by
  induction h with
  | nil h => exact ⟨1, Nat.le_refl _, .cn h⟩
  | cons h _ ih =>
    obtain ⟨k, hk, g⟩ := ih
    exact ⟨_, by omega, .nd (nd_la h.1) (.nd (nd_ca2 h.2.2.1 h.2.2.2.2.1) ((TrS.ln h.2.2.2.1).cons ((TrS.cn h.2.2.2.2.2.1).cons g)))⟩
theorem LoopT.tr {σ : H} {fs : List (Bool × Int)} {la : Nat} {ending : V} (h : LoopT σ fs ending la) : ∃ k, k ≤ 12 + 5 * fs.length ∧ TrS σ [.ref la] k := by
  cases h with
  | mk g gf =>
    have g' := g.2.2.2.2.2.2.2
    have g'' := g'.2.2
    obtain ⟨k2, b2, x2⟩ := gf.tr _ (.nd (nd_ca1 g''.1 g''.2.2.1) ((TrS.ln g''.2.1).cons (.ln g''.2.2.2.1)))
    exact ⟨_, by omega, TrS.nd (nd_la g.1) (.nd (nd_if g.2.2.1) ((TrS.ln g.2.2.2.1).cons ((TrS.nd (nd_ca1 g.2.2.2.2.1 g.2.2.2.2.2.2.1) ((TrS.ln g.2.2.2.2.2.1).cons (.nd (nd_la g'.1) x2))).cons (.cn g''.2.2.2.2.1))))⟩
theorem TreeAt.tr {σ : H} {fs : List (Bool × Int)} {n root : Nat} {ending : V} (h : TreeAt σ fs n ending root) : ∃ k, k ≤ 20 + 5 * fs.length + 4 * n ∧ Stk σ [.ref root] k := by
  cases h with
  | mk g gi gl =>
    obtain ⟨k1, b1, x1⟩ := gi.tr
    obtain ⟨k2, b2, x2⟩ := gl.tr
    exact ⟨_, by omega, (TrS.nd (nd_fx g.1 g.2.2.1) (x2.cons (.nd (nd_ca1 g.2.2.2.1 g.2.2.2.2.2.2.1) ((TrS.ln g.2.2.2.2.2.1).cons x1)))).stk⟩
theorem TreeAt.mono {σ σ' : H} {m : Nat} (hM : IsM σ m) (E : Ext m σ σ') {fs : List (Bool × Int)} {n root : Nat} {ending : V} (h : TreeAt σ fs n ending root) : TreeAt σ' fs n ending root := by
  cases h with
  | mk g gi gl => exact .mk (g.mono hM E rfl) (gi.mono hM E) (gl.mono hM E)
theorem runs_end {σ : H} {m : Nat} {u : Nums} {nd sc pr vl : V} {Φ : H → Prop} (h : at? σ m = some (Mo u 2 nd sc pr vl .none)) (hΦ : Φ σ) : Runs m Φ 0 σ := by
  intro d N _
  refine ⟨σ, ?_, hΦ⟩
  have a1 : atC cfg [(0, .ref m)] σ .NotEq 53 (.int 2) = some false := by
    show ((at? σ m).bind (getO cfg.T 53)).bind _ = _
    rw [h]; rfl
  have a2 : atC cfg [(0, .ref m)] σ .IsNot 36 .none = some false := by
    show ((at? σ m).bind (getO cfg.T 36)).bind _ = _
    rw [h]; rfl
  show exS cfg (callN cfg (d + 8)) (N + 24 + 5 + 1) [(0, .ref m)] (.whileS finT finB) σ = _
  rw [exS_while, finT_eq, a1]
  show ((atC cfg [(0, .ref m)] σ .IsNot 36 .none).map fun t => (t, σ)).bind _ = _
  rw [a2]; rfl
noncomputable def Fin (σ0 : H) (m : Nat) (D : Int) (v : V) (σ : H) : Prop := Ext m σ0 σ ∧ ∃ u nd sc pr vi, at? σ m = some (Mo u 2 nd sc pr (.ref vi) .none) ∧ u.D = D ∧ at? σ vi = some (.list [v])
theorem finish_eq {σ σ0 : H} {m k : Nat} {D : Int} {v : V} (h : Runs m (Fin σ0 m D v) k σ) (hk : k ≤ 90000) (d : Nat) : ∃ σ' vi, callN cfg (d + 9) (.val 982) [.ref m] σ = some (.ref vi, σ') ∧ at? σ' vi = some (.list [v]) ∧ Fin σ0 m D v σ' := by
  obtain ⟨σ', h1, h2⟩ := h d 99969 (by omega)
  have F := h2
  obtain ⟨_, u, nd, sc, pr, vi, g1, _, g2⟩ := h2
  refine ⟨σ', vi, ?_, g2, F⟩
  have h1 : exS cfg (callN cfg (d + 8)) 99999 [(0, .ref m)] (.whileS finT finB) σ = some (.next, [(0, .ref m)], σ') := h1
  have e : evE cfg (callN cfg (d + 8)) (99996 + 1) [(0, .ref m)] (.attr (.nm 0) 27) σ' = some (.ref vi, σ') := by
    rw [evE_attr]
    show (((at? σ' m).bind (getO cfg.T 27)).map fun u => (u, σ')) = _
    rw [g1]; rfl
  show bodyR (exB cfg (callN cfg (d + 8)) (99999 + 1) [(0, .ref m)] (.whileS finT finB :: [.ret (.attr (.nm 0) 27)]) σ) = _
  rw [exB_cons, h1]
  show bodyR (exB cfg (callN cfg (d + 8)) (99998 + 1) [(0, .ref m)] [.ret (.attr (.nm 0) 27)] σ') = _
  rw [exB_cons, show exS cfg (callN cfg (d + 8)) 99998 [(0, .ref m)] (.ret (.attr (.nm 0) 27)) σ' = (evE cfg (callN cfg (d + 8)) (99996 + 1) [(0, .ref m)] (.attr (.nm 0) 27) σ').map fun p => (.ret p.1, [(0, .ref m)], p.2) from rfl, e]
  rfl
theorem exB_step {c : Cfg} {cf : CF} {n : Nat} {l l' : Loc} {x : MS} {r : List MS} {s s' : H} (h : exS c cf n l x s = some (.next, l', s')) : exB c cf (n + 1) l (x :: r) s = exB c cf n l' r s' := by
  rw [exB_cons, h]; rfl
theorem exB_ret {c : Cfg} {cf : CF} {n : Nat} {l l' : Loc} {x : MS} {r : List MS} {s s' : H} {v : V} (h : exS c cf n l x s = some (.ret v, l', s')) : exB c cf (n + 1) l (x :: r) s = some (.ret v, l', s') := by
  rw [exB_cons, h]; rfl
theorem al1 (cf : CF) (n : Nat) (l : Loc) (σ : H) : exS cfg cf (n + 3) l (.asgN 37 .dict0) σ = some (.next, (37, .ref σ.length) :: l, σ ++ [.dict []]) := rfl
theorem al2 {cf : CF} {n : Nat} {l : Loc} {σ : H} {v : V} (h : lk l 32 = some v) : exS cfg cf (n + 5) l (.asgN 38 (.list [.nm 32])) σ = some (.next, (38, .ref σ.length) :: l, σ ++ [.list [v]]) := by
  have e : evL (evE cfg cf (n + 3) l) [.nm 32] σ = some ([v], σ) := by
    show (evE cfg cf (n + 2 + 1) l (.nm 32) σ).bind _ = _
    rw [evE_nm, h]; rfl
  show ((evL (evE cfg cf (n + 3) l) [.nm 32] σ).bind fun p => gd (Nat.ble p.1.length 1000) (some (V.ref p.2.length, p.2 ++ [O.list p.1]))).map (fun p => (Fl.next, (38, p.1) :: l, p.2)) = _
  rw [e]; rfl
theorem assigned_eq {σ : H} {root k d : Nat} (h : Stk σ [.ref root] k) (hk : k ≤ 8000) : ∃ σ' j, callN cfg (d + 3) (.val 891) [.ref root] σ = some (.ref j, σ') ∧ Kp σ σ' ∧ at? σ' j = some (.list []) := by
  obtain ⟨σ1, l1, g1, g2, g3⟩ := alLoop (d := d) (σ0 := σ ++ [.dict []]) (w := (σ ++ [O.dict []]).length) (fd := σ.length) (Nat.le_refl _) k [.ref root] (σ ++ [.dict []] ++ [.list [.ref root]]) (99997 - k) [(38, .ref (σ ++ [O.dict []]).length), (37, .ref σ.length), (32, .ref root)] (h.kp (Kp.app _ _)) hk (by omega) rfl rfl (Kp.app _ _) (at_end _ _)
  rw [show 99997 - k + k = 99997 from by omega] at g1
  have hd : at? σ1 σ.length = some (.dict []) := g2 _ _ (at_end _ _)
  refine ⟨σ1 ++ [.list []], σ1.length, ?_, (Kp.app σ [.dict []]).trans (g2.trans (Kp.app _ _)), at_end _ _⟩
  have e0 : evL (evE cfg (callN cfg (d + 2)) 99994 l1) [.nm 37] σ1 = some ([.ref σ.length], σ1) := by
    show (evE cfg (callN cfg (d + 2)) (99993 + 1) l1 (.nm 37) σ1).bind _ = _
    rw [evE_nm, g3]; rfl
  have e : evE cfg (callN cfg (d + 2)) (99994 + 1) l1 (.call (.cst (.bi .sortedB)) [.nm 37]) σ1 = some (.ref σ1.length, σ1 ++ [.list []]) := by
    show (evL (evE cfg (callN cfg (d + 2)) 99994 l1) [.nm 37] σ1).bind (fun q => callN cfg (d + 2) (.bi .sortedB) q.1 q.2) = _
    rw [e0]
    show ((at? σ1 σ.length).bind fun o => gd (isE o) (some (V.ref σ1.length, σ1 ++ [O.list []]))) = _
    rw [hd]; rfl
  have f : callN cfg (d + 3) (.val 891) [.ref root] σ = bodyR (exB cfg (callN cfg (d + 2)) (99999 + 1) [(32, .ref root)] f891.body σ) := rfl
  have b : f891.body = .asgN 37 .dict0 :: .asgN 38 (.list [.nm 32]) :: [.whileS alT alB, .ret (.call (.cst (.bi .sortedB)) [.nm 37])] := rfl
  rw [f, b, exB_step (al1 _ 99996 _ _), exB_step (n := 99998) (al2 (n := 99993) (v := .ref root) rfl), exB_step (n := 99997) g1, exB_ret (n := 99996) (show exS cfg (callN cfg (d + 2)) 99996 l1 (.ret (.call (.cst (.bi .sortedB)) [.nm 37])) σ1 = some (.ret (.ref σ1.length), l1, σ1 ++ [.list []]) by rw [show exS cfg (callN cfg (d + 2)) 99996 l1 (.ret (.call (.cst (.bi .sortedB)) [.nm 37])) σ1 = (evE cfg (callN cfg (d + 2)) (99994 + 1) l1 (.call (.cst (.bi .sortedB)) [.nm 37]) σ1).map fun p => (.ret p.1, l1, p.2) from rfl, e]; rfl)]
  rfl
theorem sr_look (d : Nat) : callO ov0 (smC 1 [1] [] noCmp) (d + 2) (.val 947) [.ref 0, .opq 1, .none] [oMo (.opq 2) (.opq 3) (.opq 4) (.opq 5) (.opq 6) (.opq 7) (.opq 8) (.opq 9) (.opq 10) (.opq 11) (.opq 12) .none] = some (.none, [oMo (.opq 2) (.opq 3) (.opq 4) (.opq 5) (.opq 6) (.opq 7) (.int 0) (.opq 1) .none .none (.ref 1) .none, .list []]) := by kernel_rfl
theorem look_eq {σ : H} {m : Nat} {u : Nums} {mo : Int} {nd sc pr vl : V} (h : at? σ m = some (Mo u mo nd sc pr vl .none)) (root d : Nat) : ∃ σ' vi, callN cfg (d + 2) (.val 947) [.ref m, .ref root, .none] σ = some (.none, σ') ∧ Ext m σ σ' ∧ at? σ' m = some (Mo u 0 (.ref root) .none .none (.ref vi) .none) := by
  have K : Rest 1 [1] [] noCmp ⟨[m], [.none, .ref root, .ref u.tops, .ref u.lib, .ref u.asg, .int u.s, .int u.c, .int u.D, .int mo, nd, sc, pr, vl], σ.length⟩ σ := noRest (ix := [m]) rfl (Nat.le_refl _) (OkL.all (l := [1]) ⟨rfl, trivial⟩) (fun p hp => by cases hp)
  obtain ⟨⟨z1, z2⟩, g1, g2, g3⟩ := small_call (s := [oMo (.opq 2) (.opq 3) (.opq 4) (.opq 5) (.opq 6) (.opq 7) (.opq 8) (.opq 9) (.opq 10) (.opq 11) (.opq 12) .none]) (e := 0) rfl K (fun _ => ov0_ok) (at1 h at0) (sr_look d)
  have g2 : z1 = .none := g2
  rw [g2] at g1
  exact ⟨z2, σ.length, g1, g3.ext, g3.obj 0 _ rfl⟩
section
variable {cf : CF} {n m root : Nat} {σ σ1 : H} {l : Loc}
theorem ru1 {j : Nat} {b : List MS} (hl : lk l 32 = some (.ref root)) (hc : cf (.val 891) [.ref root] σ = some (.ref j, σ1)) (hj : at? σ1 j = some (.list [])) : exS cfg cf (n + 5) l (.forL [12] (.call (.cst (.val 891)) [.nm 32]) b) σ = some (.next, l, σ1) := by
  have e0 : evL (evE cfg cf (n + 3) l) [.nm 32] σ = some ([.ref root], σ) := by
    show (evE cfg cf (n + 2 + 1) l (.nm 32) σ).bind _ = _
    rw [evE_nm, hl]; rfl
  have e : evE cfg cf (n + 4) l (.call (.cst (.val 891)) [.nm 32]) σ = some (.ref j, σ1) := by
    show (evL (evE cfg cf (n + 3) l) [.nm 32] σ).bind (fun q => cf (.val 891) q.1 q.2) = _
    rw [e0]; exact hc
  show (evE cfg cf (n + 4) l (.call (.cst (.val 891)) [.nm 32]) σ).bind (fun p => (refV p.1).bind fun j => (listAt p.2 j.1).bind fun _ => exI cfg cf (n + 4) l [12] j.1 0 b p.2) = _
  rw [e]
  show (listAt σ1 j).bind (fun _ => (listAt σ1 j).bind _) = _
  rw [listAt_of hj]; rfl
theorem ru2 {u : Nums} {mo : Int} {nd sc pr vl fr : V} (hl : lk l 0 = some (.ref m)) (hm : at? σ m = some (Mo u mo nd sc pr vl fr)) : exS cfg cf (n + 5) l (.asgA (.nm 0) 36 (.cst .none)) σ = some (.next, l, setAt σ m (Mo u mo nd sc pr vl .none)) := by
  show (evE cfg cf (n + 3 + 1) l (.nm 0) σ).bind (fun q => (setA cfg.T q.1 36 .none q.2).map fun σ3 => (Fl.next, l, σ3)) = _
  rw [evE_nm, hl]
  show (((at? σ m).bind fun x => (setO cfg.T 36 .none x).map fun y => setAt σ m y).map fun σ3 => (Fl.next, l, σ3)) = _
  rw [hm]; rfl
theorem ru3 {u : Nums} {mo : Int} {nd sc pr vl : V} (hl : lk l 0 = some (.ref m)) (h2 : lk l 32 = some (.ref root)) (hm : at? σ m = some (Mo u mo nd sc pr vl .none)) (hc : cf (.val 947) [.ref m, .ref root, .none] σ = some (.none, σ1)) : exS cfg cf (n + 5) l (.expr (.meth (.nm 0) 52 [.nm 32, .cst .none])) σ = some (.next, l, σ1) := by
  have e0 : evL (evE cfg cf (n + 3) l) [.nm 32, .cst .none] σ = some ([.ref root, .none], σ) := by
    show (evE cfg cf (n + 2 + 1) l (.nm 32) σ).bind _ = _
    rw [evE_nm, h2]; rfl
  rw [exS_expr, evE_meth, evE_nm, hl]
  show ((((at? σ m).bind (getMO cfg.T 52 42 39 m)).bind fun f => (evL (evE cfg cf (n + 3) l) [.nm 32, .cst .none] σ).bind fun q => cf f.1 (f.2 ++ q.1) q.2).bind fun p => gd (dropV p.1) (some (Fl.next, l, p.2))) = _
  rw [hm, e0]
  show ((cf (.val 947) [.ref m, .ref root, .none] σ).bind fun p => gd (dropV p.1) (some (Fl.next, l, p.2))) = _
  rw [hc]; rfl
theorem ru4 {u : Nums} {mo : Int} {nd sc pr vl fr v : V} (hl : lk l 0 = some (.ref m)) (hm : at? σ m = some (Mo u mo nd sc pr vl fr)) (hc : cf (.val 982) [.ref m] σ = some (v, σ1)) : exS cfg cf (n + 5) l (.ret (.meth (.nm 0) 55 [])) σ = some (.ret v, l, σ1) := by
  show (evE cfg cf (n + 3 + 1) l (.meth (.nm 0) 55 []) σ).map (fun p => (Fl.ret p.1, l, p.2)) = _
  rw [evE_meth, evE_nm, hl]
  show (((at? σ m).bind (getMO cfg.T 55 42 39 m)).bind fun f => (evL (evE cfg cf (n + 3) l) [] σ).bind fun q => cf f.1 (f.2 ++ q.1) q.2).map (fun p => (Fl.ret p.1, l, p.2)) = _
  rw [hm]
  show (cf (.val 982) [.ref m] σ).map (fun p => (Fl.ret p.1, l, p.2)) = _
  rw [hc]; rfl
end
theorem run_eq {σ : H} {m root n tops lib asg : Nat} {md : Int} {nd sc pr vl fr : V} {a : EnvA} {fs : List (Bool × Int)} {ending : V} (hm : at? σ m = some (Mo ⟨tops, lib, asg, 0, 0, 0⟩ md nd sc pr vl fr)) (hT : TreeAt σ fs n ending root) (E : Env1 σ tops lib a) (hE : Sm ending) (hB : fs.length ≤ 3) (hn : n ≤ 6) (d : Nat) :
    ∃ σ' vi, callN cfg (d + 10) (.val 975) [.ref m, .ref root] σ = some (.ref vi, σ') ∧ at? σ' vi = some (.list [gN fs ending n]) ∧ Fin σ m (max 1 (pkN fs n)) (gN fs ending n) σ' := by
  obtain ⟨k, hk, hS⟩ := hT.tr
  obtain ⟨σ1, j, a1, a2, a3⟩ := assigned_eq (d := d + 6) hS (by omega)
  have hm1 := a2 _ _ hm
  have M : IsM σ m := ⟨_, hm⟩
  have X1 : Ext m σ σ1 := fun i o _ h => a2 i o h
  have hm2 := set_eq (y := Mo ⟨tops, lib, asg, 0, 0, 0⟩ md nd sc pr vl .none) hm1
  obtain ⟨σ3, vi3, b1, X3, hm3⟩ := look_eq hm2 root (d + 7)
  have X2 : Ext m σ (setAt σ1 m (Mo ⟨tops, lib, asg, 0, 0, 0⟩ md nd sc pr vl .none)) := fun i o hi h => by
    rw [set_ne (fun c => hi (congrArg some c))]
    exact X1 i o hi h
  have X03 := X2.trans X3
  have hcN : cN fs.length n + 20 ≤ 1000 := by
    rw [cN_eq]
    have := Nat.mul_le_mul hn (show 60 + 28 * fs.length ≤ 144 by omega)
    omega
  have hR : Runs m (Fin σ m (max 1 (pkN fs n)) (gN fs ending n)) (0 + cN fs.length n + 1 + 1 + 4) σ3 :=
    tree_run (u := ⟨tops, lib, asg, 0, 0, 0⟩) (sc := .none) (fr := .none) (dp := 0) hE (by omega) (hT.mono M X03) ⟨⟨_, _, hm3⟩, .inl ⟨rfl, rfl⟩, rfl, a, M.env X03 E⟩ (Int.le_refl _) (by show (0 : Int) + _ ≤ _; omega) fun σ4 u4 X4 s4 D4 g4 => by
      obtain ⟨nd4, sc4, pr4, vi4, x1, x2⟩ := g4.st
      refine runs_end x1 ⟨X03.trans X4, u4, nd4, sc4, pr4, vi4, x1, ?_, x2⟩
      rw [D4, Int.zero_add]
      exact Int.max_eq_right (Int.le_trans (show (0 : Int) ≤ 1 by decide) (Int.le_max_left _ _))
  obtain ⟨σ', vi, q1, q2, q3⟩ := finish_eq hR (by omega) d
  refine ⟨σ', vi, ?_, q2, q3⟩
  have f : callN cfg (d + 10) (.val 975) [.ref m, .ref root] σ = bodyR (exB cfg (callN cfg (d + 9)) (99999 + 1) [(32, .ref root), (0, .ref m)] f975.body σ) := rfl
  have b : f975.body = .forL [12] (.call (.cst (.val 891)) [.nm 32]) [.asgS (.attr (.nm 0) 48) (.nm 12) (.cst (.bool true))] :: .asgA (.nm 0) 36 (.cst .none) :: .expr (.meth (.nm 0) 52 [.nm 32, .cst .none]) :: [.ret (.meth (.nm 0) 55 [])] := rfl
  rw [f, b, exB_step (n := 99999) (ru1 (n := 99994) rfl a1 a3), exB_step (n := 99998) (ru2 (n := 99993) rfl hm1), exB_step (n := 99997) (ru3 (n := 99992) rfl rfl hm2 b1), exB_ret (n := 99996) (ru4 (n := 99991) rfl hm3 q1)]
  rfl
noncomputable def noT : O → Bool
  | .tup _ => false
  | _ => true
noncomputable def Kq (a b : H) : Prop := ∀ i o, noT o = true → at? a i = some o → at? b i = some o
theorem Kq.of {a b : H} (h : Kp a b) : Kq a b := fun i o _ x => h i o x
theorem Kq.trans {a b c : H} (h : Kq a b) (g : Kq b c) : Kq a c := fun i o n x => g i o n (h i o n x)
noncomputable def mask (c : Nat) (σ : H) : H := setAt σ c (.tup [])
theorem mask_at {c i : Nat} {σ : H} {o : O} (h : at? σ i = some o) (hne : i ≠ c) : at? (mask c σ) i = some o := by unfold mask; rw [set_ne hne.symm]; exact h
theorem mask_ne {c : Nat} {σ : H} {o : O} (hn : noT o = true) (h : at? (mask c σ) c = some o) : False := by
  unfold mask at h
  rw [at_setAt, if_pos rfl] at h
  revert h
  cases at? σ c with
  | none => exact fun h => by cases h
  | some x => exact fun h => by (rw [← Option.some.inj h] at hn; cases hn)
theorem mask_of (c : Nat) (σ : H) : Kq (mask c σ) σ := fun i o hn h => by
  by_cases hc : c = i
  · rw [← hc] at h; exact (mask_ne hn h).elim
  · unfold mask at h; rw [set_ne hc] at h; exact h
theorem mask_ext {c : Nat} {σ σ' : H} (E : Ext c σ σ') : Kq (mask c σ) (mask c σ') := fun i o hn h => by
  have hne : c ≠ i := fun e => by rw [← e] at h; exact mask_ne hn h
  exact mask_at (E i o (fun e => hne (Option.some.inj e)) (mask_of c σ i o hn h)) hne.symm
theorem Lie.kq {σ σ' : H} (E : Kq σ σ') {l : List (Nat × O)} (hl : (l.all fun x => noT x.2) = true) (h : Lie σ l) : Lie σ' l := by
  induction l with
  | nil => trivial
  | cons x l ih => exact anE hl fun h1 h2 => ⟨E _ _ h1 h.1, ih h2 h.2⟩
theorem FormAt.kq {σ σ' : H} (E : Kq σ σ') {f : Bool × Int} {b r : Nat} (h : FormAt σ f b r) : FormAt σ' f b r := by
  cases h with
  | l0 h => exact .l0 (h.kq E rfl)
  | l1 h => exact .l1 (h.kq E rfl)
  | l2 h hp => exact .l2 (h.kq E rfl) hp
  | l3 h hp => exact .l3 (h.kq E rfl) hp
  | l4 h hp => exact .l4 (h.kq E rfl) hp
  | l5 h hp => exact .l5 (h.kq E rfl) hp
  | w0 h => exact .w0 (h.kq E rfl)
  | w1 h => exact .w1 (h.kq E rfl)
  | w2 h => exact .w2 (h.kq E rfl)
  | w3 h => exact .w3 (h.kq E rfl)
theorem FormsAt.kq {σ σ' : H} (E : Kq σ σ') {fs : List (Bool × Int)} {b o : Nat} (h : FormsAt σ fs b o) : FormsAt σ' fs b o := by
  induction h with
  | nil => exact .nil
  | cons h1 _ ih => exact .cons (h1.kq E) ih
theorem FormsAt.snoc {σ : H} {fs : List (Bool × Int)} {b n o : Nat} {f : Bool × Int} (h : FormsAt σ fs b n) (g : FormAt σ f n o) : FormsAt σ (fs ++ [f]) b o := by
  induction h with
  | nil => exact .cons g .nil
  | cons h1 _ ih => exact .cons h1 (ih g)
theorem ItN.kq {σ σ' : H} (E : Kq σ σ') {n r : Nat} (h : ItN σ n r) : ItN σ' n r := by
  induction h with
  | nil h => exact .nil (E _ _ rfl h)
  | cons h _ ih => exact .cons (h.kq E rfl) ih
noncomputable abbrev cMk (k : Nat) : Cfg := smC k [4] [(0, 1), (1, 2), (2, 3)] noCmp
noncomputable def mkB : List MS := [.asgN 88 (.ite (.nm 97) (.call (.cst (.val 1127)) [.nm 87, .nm 88, .nm 86]) (.call (.cst (.val 1134)) [.nm 87, .nm 88, .nm 86]))]
noncomputable def mkI : List MS := [.asgN 99 (.call (.cst (.val 1120)) [.nm 86]), .asgN 85 (.call (.cst (.val 633)) [.call (.cst (.val 1120)) [.nm 86], .list [.nm 99], .neg (.cst (.int 1)), .call (.cst (.val 666)) [.call (.cst (.val 534)) [.nm 99], .list [.call (.cst (.val 515)) [.nm 98], .nm 85]]])]
noncomputable def mkP : List MS := f1141.body.take 3
noncomputable def mkQ : List MS := f1141.body.drop 5
noncomputable def mkL (c : V) : Loc := [(88, .opq 4), (86, c), (85, .opq 7), (83, .opq 6), (93, .opq 5), (92, .opq 9), (91, .int 1003), (96, .int 1002), (95, .int 1001), (94, .int 1000)]
noncomputable def runB (k d n : Nat) (l : Loc) (b : List MS) (s : H) : R3 := exB (cMk k) (callO ov0 (cMk k) (d + 4)) (n + 20) l b s
noncomputable def runK (d n : Nat) (l : Loc) (b : List MS) : R3 := runB 1 d n (l ++ mkL (.ref 0)) b [.list [.opq 0]]
noncomputable def mkR (l : Loc) (i J : Nat) (s : H) : R3 := some (.next, (i, .ref J) :: (l ++ mkL (.ref 0)), s)
noncomputable def lF (il : Bool) (w : Int) : Loc := [(87, .int w), (97, .bool il)]
theorem mr_l0 (d n : Nat) : runK d n (lF true 0) mkB = mkR (lF true 0) 88 3 [.list [.opq 0], oCn (.bool true), oCn (.int 0), oIf (.ref 1) (.opq 4) (.ref 2)] := by kernel_rfl
theorem mr_l1 (d n : Nat) : runK d n (lF true 1) mkB = mkR (lF true 1) 88 4 [.list [.opq 0], oCn (.int 1), oCn (.int 2), .list [.ref 1, .ref 2, .opq 4], oSq (.ref 3)] := by kernel_rfl
theorem mr_l2 (d n : Nat) : runK d n (lF true 2) mkB = mkR (lF true 2) 88 5 [.list [.opq 2], .list [.opq 2], oLa (.opq 1) (.ref 1) (.int (-1)) (.opq 4), oCn (.int 3), .list [.ref 3], oCa (.ref 2) (.ref 4)] := by kernel_rfl
theorem mr_l3 (d n : Nat) : runK d n (lF true 3) mkB = mkR (lF true 3) 88 6 [.list [.opq 2], .list [], oCn (.int 4), oLa (.opq 1) (.ref 1) (.int (-1)) (.ref 2), .list [.opq 2], .list [.ref 3], oFx (.ref 4) (.ref 5) (.opq 4)] := by kernel_rfl
theorem mr_l4 (d n : Nat) : runK d n (lF true 4) mkB = mkR (lF true 4) 88 8 [.list [.opq 3], .list [.opq 2], oLa (.opq 1) (.ref 1) (.int (-1)) (.opq 4), oGn (.int 1), .list [], oCn (.int 5), oLa (.opq 3) (.ref 4) (.int (-1)) (.ref 5), .list [.ref 6, .ref 2], oCa (.ref 3) (.ref 7)] := by kernel_rfl
theorem mr_l5 (d n : Nat) : runK d n (lF true 5) mkB = mkR (lF true 5) 88 5 [.list [.opq 2], .list [.opq 2], oLa (.opq 1) (.ref 1) (.int (-1)) (.opq 4), oGn (.int 2), .list [.ref 2], oCa (.ref 3) (.ref 4)] := by kernel_rfl
theorem mr_w0 (d n : Nat) : runK d n (lF false 0) mkB = mkR (lF false 0) 88 5 [.list [.opq 2], .list [.opq 1], oLn (.opq 1), oLa (.opq 2) (.ref 1) (.int (-1)) (.ref 2), .list [.opq 4], oCa (.ref 3) (.ref 4)] := by kernel_rfl
theorem mr_w1 (d n : Nat) : runK d n (lF false 1) mkB = mkR (lF false 1) 88 3 [.list [.opq 0], oCn (.int 6), .list [.opq 4, .ref 1], oSq (.ref 2)] := by kernel_rfl
theorem mr_w2 (d n : Nat) : runK d n (lF false 2) mkB = mkR (lF false 2) 88 3 [.list [.opq 0], oCn (.int 7), oCn (.bool false), oIf (.opq 4) (.ref 1) (.ref 2)] := by kernel_rfl
theorem mr_w3 (d n : Nat) : runK d n (lF false 3) mkB = mkR (lF false 3) 88 6 [.list [.opq 3], .list [.opq 3, .opq 1], oLn (.opq 1), oLa (.opq 2) (.ref 1) (.int (-1)) (.ref 2), oCn (.int 8), .list [.ref 4, .opq 4], oCa (.ref 3) (.ref 5)] := by kernel_rfl
theorem mr_it (d n : Nat) : runK d n [(98, .opq 8)] mkI = mkR [(99, .opq 1), (98, .opq 8)] 85 6 [.list [.opq 2], .list [.opq 1], oLn (.opq 1), oCn (.opq 8), .list [.ref 3, .opq 7], oCa (.ref 2) (.ref 4), oLa (.opq 2) (.ref 1) (.int (-1)) (.ref 5)] := by kernel_rfl
theorem mr_pre (d n : Nat) : runB 0 d n [(93, .opq 5), (83, .opq 6), (92, .opq 9)] mkP [] = some (.next, [(88, .ref 7), (91, .int 1003), (96, .int 1002), (95, .int 1001), (86, .ref 0), (94, .int 1000), (85, .ref 1), (93, .opq 5), (83, .opq 6), (92, .opq 9)], [.list [.int 0], oCn (.bool false), .tup [.ref 0, .int 1000, .ref 1], .tup [.int 1001, .int 1002, .int 1003], oLn (.int 1000), oLn (.int 1002), .list [.ref 5], oCa (.ref 4) (.ref 6)]) := by kernel_rfl
theorem mr_suf (d n : Nat) : runB 0 d n (mkL (.opq 10)) mkQ [] = some (.ret (.ref 15), (100, .ref 7) :: (90, .ref 1) :: mkL (.opq 10), [.list [.int 1001, .int 1002], oLa (.int 1004) (.ref 0) (.int (-1)) (.opq 4), oLn (.int 1003), oLn (.int 1003), .list [.ref 1], oCa (.ref 3) (.ref 4), oCn (.opq 5), oIf (.ref 2) (.ref 5) (.ref 6), .list [.int 1000], .list [.int 1003], oLa (.int 1005) (.ref 9) (.int (-1)) (.ref 7), .list [.ref 10], oLn (.int 1000), .list [.opq 7], oCa (.ref 12) (.ref 13), oFx (.ref 8) (.ref 11) (.ref 14)]) := by kernel_rfl
inductive TupsAt (σ : H) : List V → List (Bool × Int) → Prop where
  | nil : TupsAt σ [] []
  | cons {t : Nat} {f : Bool × Int} {ts : List V} {fs : List (Bool × Int)} : at? σ t = some (.tup [.bool f.1, .int f.2]) → TupsAt σ ts fs → TupsAt σ (.ref t :: ts) (f :: fs)
theorem TupsAt.to {σ σ' : H} (k : ∀ t xs, at? σ t = some (.tup xs) → at? σ' t = some (.tup xs)) {ts : List V} {fs : List (Bool × Int)} (h : TupsAt σ ts fs) : TupsAt σ' ts fs := by
  induction h with
  | nil => exact .nil
  | cons h1 _ ih => exact .cons (k _ _ h1) ih
theorem TupsAt.kp {σ σ' : H} (k : Kp σ σ') {ts : List V} {fs : List (Bool × Int)} (h : TupsAt σ ts fs) : TupsAt σ' ts fs := h.to fun _ _ x => k _ _ x
theorem TupsAt.len {σ : H} {ts : List V} {fs : List (Bool × Int)} (h : TupsAt σ ts fs) : ts.length = fs.length := by
  induction h with
  | nil => rfl
  | cons _ _ ih => exact congrArg Nat.succ ih
theorem at_done {α : Type} (xs : List α) : at? xs xs.length = none := by
  induction xs with
  | nil => rfl
  | cons a l ih => exact ih
theorem snocE {α : Type} (done : List α) (x : α) (r : List α) : done ++ x :: r = (done ++ [x]) ++ r := by rw [List.append_assoc]; rfl
theorem snocL {α : Type} (done : List α) (x : α) : (done ++ [x]).length = done.length + 1 := List.length_append
section
variable {cf : CF} {n j : Nat} {is : List Nat} {b : List MS} {l l0 l1 : Loc} {σ σ1 : H} {done rest : List V} {v : V}
theorem exI_end (h : at? σ j = some (.list done)) (hz : done.length ≤ 10000) : exI cfg cf (n + 1) l is j done.length b σ = some (.next, l, σ) := by
  show (listAt σ j).bind _ = _
  rw [listAt_of h]
  show (match at? done done.length with | some v => _ | none => _) = _
  rw [at_done]
  show gd (Nat.ble done.length 10000) _ = _
  rw [Nat.ble_eq_true_of_le hz]; rfl
theorem exI_step (h : at? σ j = some (.list (done ++ v :: rest))) (ht : tgtPut σ l is v = some l0) (hb : exB cfg cf n l0 b σ = some (.next, l1, σ1)) : exI cfg cf (n + 1) l is j done.length b σ = exI cfg cf n l1 is j (done.length + 1) b σ1 := by
  show (listAt σ j).bind _ = _
  rw [listAt_of h]
  show (match at? (done ++ v :: rest) done.length with | some v => _ | none => _) = _
  rw [at_mid]
  show (tgtPut σ l is v).bind (fun l0 => loopR _ (exB cfg cf n l0 b σ)) = _
  rw [ht]
  show loopR (fun l2 σ2 => exI cfg cf n l2 is j (done.length + 1) b σ2) (exB cfg cf n l0 b σ) = _
  rw [hb]; rfl
theorem tgt_tup {t : Nat} {f : Bool × Int} (h : at? σ t = some (.tup [.bool f.1, .int f.2])) : tgtPut σ l [97, 87] (.ref t) = some ((87, .int f.2) :: (97, .bool f.1) :: l) := by
  show (tupAt σ t).bind _ = _
  unfold tupAt
  rw [h]; rfl
end
theorem loopF {cf : CF} {b : List MS} {σ0 : H} {j : Nat} (P : List (Bool × Int) → Loc → H → Prop) (kp : ∀ fs l σ, P fs l σ → Kp σ0 σ) (step : ∀ f fs l σ n, P (f :: fs) l σ → ∃ l' σ', exB cfg cf (n + 20) ((87, .int f.2) :: (97, .bool f.1) :: l) b σ = some (.next, l', σ') ∧ P fs l' σ') (fs : List (Bool × Int)) :
    ∀ {ts done : List V} {l : Loc} {σ : H} {N : Nat}, TupsAt σ0 ts fs → at? σ0 j = some (.list (done ++ ts)) → (done ++ ts).length ≤ 10000 → fs.length ≤ N → P fs l σ → ∃ l' σ', exI cfg cf (N + 21) l [97, 87] j done.length b σ = some (.next, l', σ') ∧ P [] l' σ' := by
  induction fs with
  | nil =>
    intro ts done l σ N hT hj hz hN p
    cases hT
    rw [List.append_nil] at hj hz
    exact ⟨l, σ, exI_end (kp _ _ _ p _ _ hj) hz, p⟩
  | cons f fs ih =>
    intro ts done l σ N hT hj hz hN p
    cases hT with
    | @cons t _ ts _ ht hts =>
    obtain ⟨N, rfl⟩ : ∃ M, N = M + 1 := ⟨N - 1, by rw [List.length_cons] at hN; omega⟩
    obtain ⟨l1, σ1, h1, h2⟩ := step f fs l σ (N + 1) p
    rw [snocE] at hz
    obtain ⟨l2, σ2, g1, g2⟩ := ih (done := done ++ [.ref t]) (N := N) hts (by rw [← snocE]; exact hj) hz (Nat.le_of_succ_le_succ hN) h2
    rw [snocL] at g1
    exact ⟨l2, σ2, (exI_step (kp _ _ _ p _ _ hj) (tgt_tup (kp _ _ _ p _ _ ht)) h1).trans g1, g2⟩
theorem loopN {cf : CF} {b : List MS} {i e : Nat} (P : Nat → Loc → H → Prop) (step : ∀ k l σ n, P k l σ → ∃ l' σ', exB cfg cf (n + e) ((i, .int (k : Int)) :: l) b σ = some (.next, l', σ') ∧ P (k + 1) l' σ') (m : Nat) : ∀ {k : Nat} {l : Loc} {σ : H} {N : Nat}, m ≤ N → P k l σ → ∃ l' σ', exR cfg cf (N + e + 1) l i k m b σ = some (.next, l', σ') ∧ P (k + m) l' σ' := by
  induction m with
  | zero => intro k l σ N hN p; exact ⟨l, σ, rfl, p⟩
  | succ m ih =>
    intro k l σ N hN p
    obtain ⟨N, rfl⟩ : ∃ M, N = M + 1 := ⟨N - 1, by omega⟩
    obtain ⟨l1, σ1, h1, h2⟩ := step k l σ (N + 1) p
    obtain ⟨l2, σ2, g1, g2⟩ := ih (N := N) (Nat.le_of_succ_le_succ hN) h2
    refine ⟨l2, σ2, ?_, by rw [← Nat.add_assoc, Nat.add_right_comm]; exact g2⟩
    rw [Nat.add_right_comm] at g1
    show loopR (fun l1 σ1 => exR cfg cf (N + 1 + e) l1 i (k + 1) m b σ1) (exB cfg cf (N + 1 + e) ((i, .int (k : Int)) :: l) b σ) = _
    rw [h1]
    exact g1
noncomputable def AllM (R R' : Tr) (l1 : Loc) : Loc → Prop
  | [] => True
  | p :: l => (∃ w, lk l1 p.1 = some w ∧ trV R w = trV R' p.2) ∧ AllM R R' l1 l
theorem LocS.next {R R' : Tr} {l1 m : Loc} (h : LocS R l1 m) {l2 : Loc} (a : AllM R R' l1 l2) : LocS R' l2 m := by
  induction l2 with
  | nil => intro i v e; cases e
  | cons p l ih =>
    intro i v e
    refine cdE e (fun h1 e => ?_) fun _ e => ih a.2 i v e
    obtain ⟨w, h2, h3⟩ := a.1
    rw [← nbeq.mp h1, ← Option.some.inj e, ← h3]
    exact h _ _ h2
noncomputable def AllL (R : Tr) (m : Loc) : Loc → Prop
  | [] => True
  | p :: l => lk m p.1 = some (trV R p.2) ∧ AllL R m l
theorem LocS.all {R : Tr} {m l : Loc} (a : AllL R m l) : LocS R l m := by
  induction l with
  | nil => intro i v e; cases e
  | cons p l ih =>
    intro i v e
    refine cdE e (fun h1 e => ?_) fun _ e => ih a.2 i v e
    rw [← nbeq.mp h1, ← Option.some.inj e]
    exact a.1
structure KN where
  c : Nat
  b : Nat
  e : V
  n : Int
  r : Nat
  f : Nat
noncomputable def nuK (p : KN) (k : Int) (i : V) : List V := [.int k, .int (k + 1), .int (k + 1 + 1), .int (k + 1 + 1 + 1), .ref p.b, p.e, .int p.n, .ref p.r, i, .ref p.f, .ref p.c]
noncomputable abbrev RK (p : KN) (k : Int) (i : V) (L : Nat) : Tr := ⟨[p.c], nuK p k i, L⟩
noncomputable abbrev R0 (p : KN) (k : Int) (L : Nat) : Tr := ⟨[], nuK p k .none, L⟩
noncomputable def ML (p : KN) (l : Loc) : Prop := LocS (RK p 0 .none 0) (mkL (.ref 0)) l
theorem okK {ix : List Nat} {p : KN} {k : Int} {i : V} {σ : H} (hx : ix.length ≤ 1) : Rest ix.length [4] [(0, 1), (1, 2), (2, 3)] noCmp ⟨ix, nuK p k i, σ.length⟩ σ := noRest rfl hx (OkL.all (l := [4]) ⟨rfl, trivial⟩) fun q hq => by
  rcases List.mem_cons.mp hq with rfl | hq
  · exact ⟨k, rfl, rfl⟩
  · rcases List.mem_cons.mp hq with rfl | hq
    · exact ⟨k + 1, rfl, rfl⟩
    · cases List.mem_singleton.mp hq; exact ⟨k + 1 + 1, rfl, rfl⟩
section
variable {d n : Nat} {σ : H} {p : KN} {k : Int} {l : Loc}
noncomputable def New (R : Tr) (c : Nat) (s σ' : H) : Prop := ∀ i o, at? s i = some o → at? (mask c σ') (adT R (i + 1)) = some (trO R o)
theorem new_of {R : Tr} {c : Nat} {x : O} {s σ' : H} (hix : R.ix = [c]) (hL : R.L = σ.length) (hc : c < σ.length) (H : HR R σ (x :: s) σ') : New R c s σ' := fun i o h => by
  refine mask_at (H.obj (i + 1) o h) ?_
  unfold adT
  rw [hix, hL]
  show σ.length + (i + 1 - 1) ≠ c
  omega
theorem run_K {l1 l2 m : Loc} {b : List MS} {iN J j : Nat} {s : H} {k' : Int} {i : V} (run : ∀ d n, runK d n l1 b = mkR l2 iN J (.list [.opq j] :: s)) (hc : at? σ p.c = some (.list [.int k])) (hl : LocS (RK p k i σ.length) (l1 ++ mkL (.ref 0)) m) (hj : nuV (RK p k i σ.length) j = .int k') :
    ∃ m' σ', exB cfg (callN cfg (d + 4)) (n + 20) m b σ = some (.next, m', σ') ∧ LocS (RK p k i σ.length) ((iN, .ref J) :: (l2 ++ mkL (.ref 0))) m' ∧ at? σ' p.c = some (.list [.int k']) ∧ Ext p.c σ σ' ∧ New (RK p k i σ.length) p.c s σ' := by
  obtain ⟨⟨z1, z2, z3⟩, g1, g2, g3, g4⟩ := small_block (e := 0) (s := [.list [.opq 0]]) rfl (okK (ix := [p.c]) (p := p) (k := k) (i := i) (Nat.le_refl _)) (fun _ => ov0_ok) (at1 hc at0) hl (run d n)
  have g2 : z1 = .next := g2
  rw [g2] at g1
  have g5 : at? z3 p.c = some (.list [nuV (RK p k i σ.length) j]) := g4.obj 0 _ rfl
  rw [hj] at g5
  exact ⟨z2, z3, g1, g3, g5, g4.ext, new_of rfl rfl (at_lt hc) g4⟩
theorem ML.to (h : ML p l) (k : Int) (i : V) (L : Nat) : LocS (RK p k i L) (mkL (.ref 0)) l := LocS.next h ⟨⟨_, rfl, rfl⟩, ⟨_, rfl, rfl⟩, ⟨_, rfl, rfl⟩, ⟨_, rfl, rfl⟩, ⟨_, rfl, rfl⟩, ⟨_, rfl, rfl⟩, ⟨_, rfl, rfl⟩, ⟨_, rfl, rfl⟩, ⟨_, rfl, rfl⟩, ⟨_, rfl, rfl⟩, trivial⟩
noncomputable def okF (f : Bool × Int) : Prop := 0 ≤ f.2 ∧ f.2 < (if f.1 then 6 else 4)
noncomputable def Mk (d n : Nat) (σ : H) (p : KN) (k : Int) (l : Loc) (f : Bool × Int) : Prop := ∃ m' σ' r k', exB cfg (callN cfg (d + 4)) (n + 20) ((87, .int f.2) :: (97, .bool f.1) :: l) mkB σ = some (.next, m', σ') ∧ ML { p with b := r } m' ∧ k ≤ k' ∧ k' ≤ k + 3 ∧ at? σ' p.c = some (.list [.int k']) ∧ Ext p.c σ σ' ∧ FormAt (mask p.c σ') f p.b r
theorem mk_of {f : Bool × Int} {J j : Nat} {s : H} {k' : Int} (run : ∀ d n, runK d n (lF f.1 f.2) mkB = mkR (lF f.1 f.2) 88 J (.list [.opq j] :: s)) (hl : ML p l) (hc : at? σ p.c = some (.list [.int k])) (hj : ∀ L, nuV (RK p k .none L) j = .int k') (h1 : k ≤ k') (h2 : k' ≤ k + 3) (q : ∀ σ', New (RK p k .none σ.length) p.c s σ' → FormAt (mask p.c σ') f p.b (adT (RK p k .none σ.length) J)) : Mk d n σ p k l f := by
  obtain ⟨m', σ', g1, g2, g3, g4, g5⟩ := run_K (d := d) (n := n) run hc (((hl.to k .none σ.length).cons 97 (.bool f.1)).cons 87 (.int f.2)) (hj _)
  exact ⟨m', σ', _, k', g1, LocS.next g2 ⟨⟨_, rfl, rfl⟩, ⟨_, rfl, rfl⟩, ⟨_, rfl, rfl⟩, ⟨_, rfl, rfl⟩, ⟨_, rfl, rfl⟩, ⟨_, rfl, rfl⟩, ⟨_, rfl, rfl⟩, ⟨_, rfl, rfl⟩, ⟨_, rfl, rfl⟩, ⟨_, rfl, rfl⟩, trivial⟩, h1, h2, g3, g4, q σ' g5⟩
theorem mk_l (w : Int) (h1 : 0 ≤ w) (h2 : w < 6) (hl : ML p l) (hc : at? σ p.c = some (.list [.int k])) (hk : k ≤ 900) : Mk d n σ p k l (true, w) := by
  have e : w = 0 ∨ w = 1 ∨ w = 2 ∨ w = 3 ∨ w = 4 ∨ w = 5 := by omega
  rcases e with rfl | rfl | rfl | rfl | rfl | rfl
  · exact mk_of mr_l0 hl hc (fun _ => rfl) (by omega) (by omega) fun σ' g => .l0 ⟨g 2 _ rfl, g 0 _ rfl, g 1 _ rfl, trivial⟩
  · exact mk_of mr_l1 hl hc (fun _ => rfl) (by omega) (by omega) fun σ' g => .l1 ⟨g 3 _ rfl, g 2 _ rfl, g 0 _ rfl, g 1 _ rfl, trivial⟩
  · exact mk_of mr_l2 hl hc (fun _ => rfl) (by omega) (by omega) fun σ' g => .l2 ⟨g 4 _ rfl, g 1 _ rfl, g 0 _ rfl, g 3 _ rfl, g 2 _ rfl, trivial⟩ (by omega)
  · exact mk_of mr_l3 hl hc (fun _ => rfl) (by omega) (by omega) fun σ' g => .l3 ⟨g 5 _ rfl, g 3 _ rfl, g 4 _ rfl, g 2 _ rfl, g 1 _ rfl, trivial⟩ (by omega)
  · exact mk_of mr_l4 hl hc (fun _ => rfl) (by omega) (by omega) fun σ' g => .l4 ⟨g 7 _ rfl, g 2 _ rfl, g 6 _ rfl, g 5 _ rfl, g 3 _ rfl, g 4 _ rfl, g 1 _ rfl, g 0 _ rfl, trivial⟩ (by omega)
  · exact mk_of mr_l5 hl hc (fun _ => rfl) (by omega) (by omega) fun σ' g => .l5 ⟨g 4 _ rfl, g 2 _ rfl, g 3 _ rfl, g 1 _ rfl, g 0 _ rfl, trivial⟩ (by omega)
theorem mk_w (w : Int) (h1 : 0 ≤ w) (h2 : w < 4) (hl : ML p l) (hc : at? σ p.c = some (.list [.int k])) (hk : k ≤ 900) : Mk d n σ p k l (false, w) := by
  have e : w = 0 ∨ w = 1 ∨ w = 2 ∨ w = 3 := by omega
  rcases e with rfl | rfl | rfl | rfl
  · exact mk_of mr_w0 hl hc (fun _ => rfl) (by omega) (by omega) fun σ' g => .w0 ⟨g 4 _ rfl, g 2 _ rfl, g 0 _ rfl, g 1 _ rfl, g 3 _ rfl, trivial⟩
  · exact mk_of mr_w1 hl hc (fun _ => rfl) (by omega) (by omega) fun σ' g => .w1 ⟨g 2 _ rfl, g 1 _ rfl, g 0 _ rfl, trivial⟩
  · exact mk_of mr_w2 hl hc (fun _ => rfl) (by omega) (by omega) fun σ' g => .w2 ⟨g 2 _ rfl, g 0 _ rfl, g 1 _ rfl, trivial⟩
  · exact mk_of mr_w3 hl hc (fun _ => rfl) (by omega) (by omega) fun σ' g => .w3 ⟨g 5 _ rfl, g 2 _ rfl, g 0 _ rfl, g 1 _ rfl, g 4 _ rfl, g 3 _ rfl, trivial⟩
theorem mk_form (f : Bool × Int) (hf : okF f) (hl : ML p l) (hc : at? σ p.c = some (.list [.int k])) (hk : k ≤ 900) : Mk d n σ p k l f := by
  obtain ⟨il, w⟩ := f
  cases il with
  | true => exact mk_l w hf.1 hf.2 hl hc hk
  | false => exact mk_w w hf.1 hf.2 hl hc hk
theorem mk_item {j : Nat} (i : Int) (hl : ML p l) (hc : at? σ p.c = some (.list [.int k])) (hI : ItN (mask p.c σ) j p.r) : ∃ m' σ' r k', exB cfg (callN cfg (d + 4)) (n + 20) ((98, .int i) :: l) mkI σ = some (.next, m', σ') ∧ ML { p with r := r } m' ∧ at? σ' p.c = some (.list [.int k']) ∧ Ext p.c σ σ' ∧ ItN (mask p.c σ') (j + 1) r := by
  obtain ⟨m', σ', g1, g2, g3, g4, g⟩ := run_K (d := d) (n := n) (i := .int i) (k' := k + 1 + 1) mr_it hc ((hl.to k (.int i) σ.length).cons 98 (.opq 8)) rfl
  exact ⟨m', σ', adT (RK p k (.int i) σ.length) 6, _, g1, LocS.next g2 ⟨⟨_, rfl, rfl⟩, ⟨_, rfl, rfl⟩, ⟨_, rfl, rfl⟩, ⟨_, rfl, rfl⟩, ⟨_, rfl, rfl⟩, ⟨_, rfl, rfl⟩, ⟨_, rfl, rfl⟩, ⟨_, rfl, rfl⟩, ⟨_, rfl, rfl⟩, ⟨_, rfl, rfl⟩, trivial⟩, g3, g4, .cons (r' := p.r) ⟨g 5 _ rfl, g 0 _ rfl, g 4 _ rfl, g 1 _ rfl, g 3 _ rfl, g 2 _ rfl, trivial⟩ (hI.kq (mask_ext g4))⟩
end
theorem ext_kp {σ0 σ σ' : H} {c : Nat} (hc : σ0.length ≤ c) (k : Kp σ0 σ) (E : Ext c σ σ') : Kp σ0 σ' := fun i o h => E i o (fun e => by have := at_lt h; have := Option.some.inj e; omega) (k i o h)
theorem exB_app {cf : CF} {b : List MS} {l' : Loc} {σ' : H} (pre : List MS) : ∀ {n : Nat} {l : Loc} {σ : H}, exB cfg cf (n + 1 + pre.length) l pre σ = some (.next, l', σ') → exB cfg cf (n + 1 + pre.length) l (pre ++ b) σ = exB cfg cf (n + 1) l' b σ' := by
  induction pre with
  | nil => intro n l σ h; cases h; rfl
  | cons x pre ih =>
    intro n l σ h
    have h : seqR (fun l1 σ1 => exB cfg cf (n + 1 + pre.length) l1 pre σ1) (exS cfg cf (n + 1 + pre.length) l x σ) = some (.next, l', σ') := h
    show seqR (fun l1 σ1 => exB cfg cf (n + 1 + pre.length) l1 (pre ++ b) σ1) (exS cfg cf (n + 1 + pre.length) l x σ) = _
    exact seqE h (fun l1 σ1 g1 h => by rw [g1]; exact ih h) fun g1 hn => by cases hn
theorem exS_forL {cf : CF} {n i j : Nat} {is : List Nat} {b : List MS} {l : Loc} {σ : H} {xs : List V} (hl : lk l i = some (.ref j)) (hj : at? σ j = some (.list xs)) : exS cfg cf (n + 3) l (.forL is (.nm i) b) σ = exI cfg cf (n + 2) l is j 0 b σ := by
  show (evE cfg cf (n + 1 + 1) l (.nm i) σ).bind (fun p => (refV p.1).bind fun j => (listAt p.2 j.1).bind fun _ => exI cfg cf (n + 2) l is j.1 0 b p.2) = _
  rw [evE_nm, hl]
  show (listAt σ j).bind _ = _
  rw [listAt_of hj]; rfl
theorem exS_forR {cf : CF} {n i k : Nat} {m : Nat} {b : List MS} {l : Loc} {σ : H} (hl : lk l i = some (.int m)) (hm : m < 1000) : exS cfg cf (n + 3) l (.forR k [.nm i] b) σ = exR cfg cf (n + 2) l k 0 m b σ := by
  have e : evL (evE cfg cf (n + 2) l) [.nm i] σ = some ([.int m], σ) := by
    show (evE cfg cf (n + 1 + 1) l (.nm i) σ).bind _ = _
    rw [evE_nm, hl]; rfl
  show (evL (evE cfg cf (n + 2) l) [.nm i] σ).bind (fun p => (arg1 p.1).bind fun v => (intV v.1).bind fun m => gd (decide (0 ≤ m.1 ∧ m.1 < 1000)) (exR cfg cf (n + 2) l k 0 m.1.toNat b p.2)) = _
  rw [e]
  show gd (decide (0 ≤ (m : Int) ∧ (m : Int) < 1000)) (exR cfg cf (n + 2) l k 0 m b σ) = _
  rw [decide_eq_true ⟨Int.natCast_nonneg m, by omega⟩]; rfl
inductive PF (p : KN) (base : Nat) (σ1 : H) (all fs : List (Bool × Int)) (l : Loc) (σ : H) : Prop where
  | mk {done : List (Bool × Int)} {b : Nat} {k : Int} : done ++ fs = all → (∀ f ∈ fs, okF f) → at? σ p.c = some (.list [.int k]) → k + 3 * fs.length ≤ 900 → FormsAt (mask p.c σ) done base b → ML { p with b := b } l → Ext p.c σ1 σ → PF p base σ1 all fs l σ
inductive PI (p : KN) (σ1 : H) (j : Nat) (l : Loc) (σ : H) : Prop where
  | mk {r : Nat} {k : Int} : at? σ p.c = some (.list [.int k]) → ItN (mask p.c σ) j r → ML { p with r := r } l → Ext p.c σ1 σ → PI p σ1 j l σ
section
variable {d : Nat} {σ0 σ1 : H} {p : KN} {base : Nat} {fs : List (Bool × Int)}
theorem mkForms (hc0 : σ0.length ≤ p.c) (kp : Kp σ0 σ1) {ts : List V} {l : Loc} {n : Nat} {f0 : Nat} (hT : TupsAt σ0 ts fs) (hf : at? σ0 f0 = some (.list ts)) (hlen : fs.length ≤ 3) (P : PF p base σ1 fs fs l σ1) : ∃ l' σ', exI cfg (callN cfg (d + 4)) (n + 24) l [97, 87] f0 0 mkB σ1 = some (.next, l', σ') ∧ PF p base σ1 fs [] l' σ' :=
  loopF (done := []) (N := n + 3) (PF p base σ1 fs) (fun fs l σ P => by cases P with | mk _ _ _ _ _ _ E => exact ext_kp hc0 kp E) (fun f gs l σ n P => by
    cases P with
    | @mk done b k e1 ok hc hk hF hl E =>
      rw [List.length_cons] at hk
      obtain ⟨m', σ', r, k', h1, h2, h3, h4, h5, h6, h7⟩ := mk_form (d := d) (n := n) (p := { p with b := b }) f (ok f (.head _)) hl hc (by omega)
      exact ⟨m', σ', h1, .mk (done := done ++ [f]) (by rw [← snocE]; exact e1) (fun x hx => ok x (.tail _ hx)) h5 (by omega) ((hF.kq (mask_ext h6)).snoc h7) h2 (E.trans h6)⟩) fs hT hf (by rw [List.nil_append, hT.len]; omega) (by omega) P
theorem mkItems {l : Loc} {σ : H} {n m : Nat} (hm : m ≤ n) (P : PI p σ1 0 l σ) : ∃ l' σ', exR cfg (callN cfg (d + 4)) (n + 20 + 1) l 98 0 m mkI σ = some (.next, l', σ') ∧ PI p σ1 m l' σ' := by
  have := loopN (cf := callN cfg (d + 4)) (b := mkI) (i := 98) (e := 20) (PI p σ1) (fun k l σ n P => by
    cases P with
    | mk hc hI hl E =>
      obtain ⟨m', σ', r, k', h1, h2, h3, h4, h5⟩ := mk_item (d := d) (n := n) (k : Int) hl hc hI
      exact ⟨m', σ', h1, .mk h3 h5 h2 (E.trans h4)⟩) m (k := 0) hm P
  rw [Nat.zero_add] at this
  exact this
theorem made_end {σ2 : H} {l : Loc} {fs : List (Bool × Int)} {m : Nat} (hl : ML p l) (n : Nat) (k : Int) : ∃ l' σ', exB cfg (callN cfg (d + 4)) (n + 20) l mkQ σ2 = some (.ret (.ref (adT (R0 p k σ2.length) 15)), l', σ') ∧ Kp σ2 σ' ∧
    ∀ {lb asb rb : Nat}, Lie σ' [(base, oCa (.ref lb) (.ref asb)), (lb, oLn (.int 1000)), (asb, .list [.ref rb]), (rb, oLn (.int 1002))] → FormsAt σ' fs base p.b → ItN σ' m p.r → TreeAt σ' fs m p.e (adT (R0 p k σ2.length) 15) := by
  obtain ⟨⟨z1, z2, z3⟩, g1, g2, g3, g4⟩ := small_block (e := 0) (s := []) (σ := σ2) rfl (okK (ix := []) (p := p) (k := k) (i := .none) (Nat.zero_le _)) (fun _ => ov0_ok) at0 (LocS.next (l2 := mkL (.opq 10)) hl ⟨⟨_, rfl, rfl⟩, ⟨_, rfl, rfl⟩, ⟨_, rfl, rfl⟩, ⟨_, rfl, rfl⟩, ⟨_, rfl, rfl⟩, ⟨_, rfl, rfl⟩, ⟨_, rfl, rfl⟩, ⟨_, rfl, rfl⟩, ⟨_, rfl, rfl⟩, ⟨_, rfl, rfl⟩, trivial⟩) (mr_suf d n)
  have g2 : z1 = .ret (.ref (adT (R0 p k σ2.length) 15)) := g2
  rw [g2] at g1
  refine ⟨z2, z3, g1, fun i o h => g4.ext i o (fun e => by cases e) h, fun g hF hI => ?_⟩
  exact .mk ⟨g4.obj 15 _ rfl, g4.obj 8 _ rfl, g4.obj 11 _ rfl, g4.obj 14 _ rfl, g4.obj 10 _ rfl, g4.obj 12 _ rfl, g4.obj 13 _ rfl, trivial⟩ hI
    (.mk ⟨g4.obj 10 _ rfl, g4.obj 9 _ rfl, g4.obj 7 _ rfl, g4.obj 2 _ rfl, g4.obj 5 _ rfl, g4.obj 3 _ rfl, g4.obj 4 _ rfl, g4.obj 1 _ rfl, g4.obj 0 _ rfl, g.1, g.2.1, g.2.2.1, g.2.2.2.1, g4.obj 6 _ rfl, trivial⟩ hF)
end
theorem made_eq {d : Nat} {σ : H} {f0 n : Nat} {ts : List V} {fs : List (Bool × Int)} {ending : V} (hF : at? σ f0 = some (.list ts)) (hT : TupsAt σ ts fs) (hok : ∀ f ∈ fs, okF f) (hlen : fs.length ≤ 3) (hn : n ≤ 6) :
    ∃ σ' root, callN cfg (d + 5) (.val 1141) [.ref f0, .int n, ending] σ = some (.ref root, σ') ∧ Kp σ σ' ∧ TreeAt σ' fs n ending root := by
  obtain ⟨⟨z1, l1, σ1⟩, a1, a2, a3, a4⟩ := small_block (e := 0) (s := []) (σ := σ) rfl (okK (ix := []) (p := ⟨0, 0, ending, n, 0, f0⟩) (k := 0) (i := .none) (Nat.zero_le _)) (fun _ => ov0_ok) at0 (m := [(93, ending), (83, .int n), (92, .ref f0)]) (LocS.all (l := [(93, .opq 5), (83, .opq 6), (92, .opq 9)]) ⟨rfl, rfl, rfl, trivial⟩) (mr_pre d 99980)
  have a2 : z1 = .next := a2
  rw [a2] at a1
  have kp1 : Kp σ σ1 := fun i o h => a4.ext i o (fun e => by cases e) h
  have c1 : at? σ1 σ.length = some (.list [.int 0]) := a4.obj 0 _ rfl
  have lc : ∀ i, σ.length + (i + 1) ≠ σ.length := fun i => by omega
  have ne : ∀ i, some σ.length ≠ some (σ.length + (i + 1)) := fun i e => lc i (Option.some.inj e).symm
  obtain ⟨l2, σ2, b1, P2⟩ := mkForms (d := d) (σ1 := σ1) (p := ⟨σ.length, σ.length + 7, ending, n, σ.length + 1, f0⟩) (base := σ.length + 7) (n := 99971) (Nat.le_refl _) kp1 hT hF hlen
    (.mk (done := []) (b := σ.length + 7) (k := 0) rfl hok c1 (by omega) .nil (LocS.next a3 ⟨⟨_, rfl, rfl⟩, ⟨_, rfl, rfl⟩, ⟨_, rfl, rfl⟩, ⟨_, rfl, rfl⟩, ⟨_, rfl, rfl⟩, ⟨_, rfl, rfl⟩, ⟨_, rfl, rfl⟩, ⟨_, rfl, rfl⟩, ⟨_, rfl, rfl⟩, ⟨_, rfl, rfl⟩, trivial⟩) (Ext.refl _ _))
  cases P2 with
  | @mk done b k2 e2 _ c2 _ F2 M2 E2 =>
  rw [List.append_nil] at e2
  subst e2
  have E2 : Ext σ.length σ1 σ2 := E2
  obtain ⟨l3, σ3, d1, P3⟩ := mkItems (d := d) (σ1 := σ2) (p := ⟨σ.length, b, ending, n, σ.length + 1, f0⟩) (n := 99973) (m := n) (by omega) (.mk c2 (.nil (mask_at (E2 _ _ (ne 0) (a4.obj 1 _ rfl)) (lc 0))) M2 (Ext.refl _ _))
  cases P3 with
  | @mk r k3 c3 I3 M3 E3 =>
  have E3 : Ext σ.length σ2 σ3 := E3
  obtain ⟨l4, σ4, g1, g2, g3⟩ := made_end (d := d) (base := σ.length + 7) (σ2 := σ3) (fs := done) (m := n) M3 99975 0
  have kq : Kq (mask σ.length σ3) σ4 := (mask_of _ _).trans (.of g2)
  have E13 := E2.trans E3
  have K : ∀ i o, at? σ1 (σ.length + (i + 1)) = some o → at? σ4 (σ.length + (i + 1)) = some o := fun i o h => g2 _ _ (E13 _ _ (ne i) h)
  refine ⟨σ4, _, ?_, (ext_kp (Nat.le_refl _) kp1 E13).trans g2, g3 ⟨K 6 _ (a4.obj 7 _ rfl), K 3 _ (a4.obj 4 _ rfl), K 5 _ (a4.obj 6 _ rfl), K 4 _ (a4.obj 5 _ rfl), trivial⟩ (F2.kq ((mask_ext E3).trans kq)) (I3.kq kq)⟩
  have f : callN cfg (d + 5) (.val 1141) [.ref f0, .int n, ending] σ = bodyR (exB cfg (callN cfg (d + 4)) (99996 + 1 + mkP.length) [(93, ending), (83, .int n), (92, .ref f0)] (mkP ++ .forL [97, 87] (.nm 92) mkB :: .forR 98 [.nm 83] mkI :: mkQ) σ) := rfl
  rw [f, exB_app mkP a1, exB_step (n := 99996) ((exS_forL (n := 99993) (a3 92 _ rfl) (kp1 _ _ hF)).trans b1), exB_step (n := 99995) ((exS_forR (n := 99992) (M2 83 _ rfl) (by omega)).trans d1)]
  show bodyR (exB cfg (callN cfg (d + 4)) (99975 + 20) l3 mkQ σ3) = _
  rw [g1]
  rfl
inductive okR : V → Prop where
  | f : okR (.bool false)
  | s : okR (.int 6)
  | t : okR (.int 7)
  | n : okR (.int 9)
theorem okR.sm {v : V} (h : okR v) : Sm v := by
  cases h with
  | f => exact .inl rfl
  | _ => exact .inr ⟨_, rfl⟩
theorem okR.g1 {v : V} (h : okR v) (f : Bool × Int) : okR (MP.g1 f v) := by
  unfold MP.g1
  cases f.1
  · cases decide (f.2 = 1)
    · cases decide (f.2 = 2)
      · exact h
      · cases isFls v
        · exact .t
        · exact .f
    · exact .s
  · exact h
theorem okR.gF (fs : List (Bool × Int)) : ∀ {v : V}, okR v → okR (MP.gF fs v) := by
  induction fs with
  | nil => exact fun h => h
  | cons f fs ih => exact fun h => ih (h.g1 f)
theorem okR.gN (fs : List (Bool × Int)) {v : V} (h : okR v) (n : Nat) : okR (MP.gN fs v n) := by
  induction n with
  | zero => exact h
  | succ n ih => exact ih.gF fs
noncomputable def duB : List MS := [.ifS (.and (.not (.nm 97)) (.cmp CmpOp.Eq (.nm 87) (.cst (.int 1)))) [.asgN 84 (.cst (.int 6))] [], .ifS (.and (.not (.nm 97)) (.cmp CmpOp.Eq (.nm 87) (.cst (.int 2)))) [.asgN 84 (.ite (.cmp CmpOp.NotEq (.call (.cst (.bi .reprB)) [.nm 84]) (.cst (.str "False"))) (.cst (.int 7)) (.cst (.bool false)))] []]
noncomputable abbrev cDu : Cfg := smC 0 [] [] noCmp
noncomputable def duL (il : Bool) (w : Int) (v : V) : Loc := [(87, .int w), (97, .bool il), (84, v), (92, .opq 1)]
noncomputable def runD (d n : Nat) (il : Bool) (w : Int) (v : V) : R3 := exB cDu (callO ov0 cDu (d + 2)) (n + 20) (duL il w v) duB []
theorem du_l (d n : Nat) (w : Int) : runD d n true w (.opq 0) = some (.next, duL true w (.opq 0), []) := by kernel_rfl
theorem du_0 (d n : Nat) : runD d n false 0 (.opq 0) = some (.next, duL false 0 (.opq 0), []) := by kernel_rfl
theorem du_1 (d n : Nat) : runD d n false 1 (.opq 0) = some (.next, (84, .int 6) :: duL false 1 (.opq 0), []) := by kernel_rfl
theorem du_2f (d n : Nat) : runD d n false 2 (.bool false) = some (.next, (84, .bool false) :: duL false 2 (.bool false), []) := by kernel_rfl
theorem du_26 (d n : Nat) : runD d n false 2 (.int 6) = some (.next, (84, .int 7) :: duL false 2 (.int 6), []) := by kernel_rfl
theorem du_27 (d n : Nat) : runD d n false 2 (.int 7) = some (.next, (84, .int 7) :: duL false 2 (.int 7), []) := by kernel_rfl
theorem du_29 (d n : Nat) : runD d n false 2 (.int 9) = some (.next, (84, .int 7) :: duL false 2 (.int 9), []) := by kernel_rfl
theorem du_3 (d n : Nat) : runD d n false 3 (.opq 0) = some (.next, duL false 3 (.opq 0), []) := by kernel_rfl
theorem HR.same {nu : List V} {L : Nat} {σ σ' : H} (h : HR ⟨[], nu, L⟩ σ [] σ') (hL : L = σ.length) : σ' = σ := heap_ext _ _ (by have := h.len; subst hL; exact this.symm) fun i x e => h.ext i x (fun c => by cases c) e
section
variable {d : Nat} {σ : H} {f0 : Nat} {v : V} {l : Loc}
theorem du_of {n : Nat} {f : Bool × Int} {w : V} {l' : Loc} (run : ∀ d n, runD d n f.1 f.2 w = some (.next, l', [])) (h84 : lk l 84 = some v) (h92 : lk l 92 = some (.ref f0)) (hw : ∀ L, trV ⟨[], [v, .ref f0], L⟩ w = v) (h1 : ∀ L, ∃ u, lk l' 84 = some u ∧ trV ⟨[], [v, .ref f0], L⟩ u = g1 f v) (h2 : ∃ u, lk l' 92 = some u ∧ u = .opq 1) :
    ∃ m', exB cfg (callN cfg (d + 2)) (n + 20) ((87, .int f.2) :: (97, .bool f.1) :: l) duB σ = some (.next, m', σ) ∧ lk m' 84 = some (g1 f v) ∧ lk m' 92 = some (.ref f0) := by
  obtain ⟨⟨z1, z2, z3⟩, g1, g2, g3, g4⟩ := small_block (e := 0) (s := []) (σ := σ) rfl (noRest (ix := []) (nu := [v, .ref f0]) rfl (Nat.zero_le _) (fun _ h => by cases h) fun _ h => by cases h) (fun _ => ov0_ok) at0 (m := (87, .int f.2) :: (97, .bool f.1) :: l) (LocS.all (l := duL f.1 f.2 w) ⟨rfl, rfl, by rw [hw]; exact h84, h92, trivial⟩) (run d n)
  have g2 : z1 = .next := g2
  obtain ⟨u, e1, e2⟩ := h1 σ.length
  obtain ⟨u2, e3, e4⟩ := h2
  have g4 : z3 = σ := HR.same g4 rfl
  rw [g2, g4] at g1
  refine ⟨z2, g1, by rw [← e2]; exact g3 84 u e1, ?_⟩
  rw [e4] at e3
  exact g3 92 _ e3
theorem due1 {n : Nat} (f : Bool × Int) (hf : okF f) (hv : okR v) (h84 : lk l 84 = some v) (h92 : lk l 92 = some (.ref f0)) :
    ∃ m', exB cfg (callN cfg (d + 2)) (n + 20) ((87, .int f.2) :: (97, .bool f.1) :: l) duB σ = some (.next, m', σ) ∧ lk m' 84 = some (g1 f v) ∧ lk m' 92 = some (.ref f0) := by
  obtain ⟨il, w⟩ := f
  cases il with
  | true => exact du_of (fun d n => du_l d n w) h84 h92 (fun _ => rfl) (fun _ => ⟨_, rfl, rfl⟩) ⟨_, rfl, rfl⟩
  | false =>
    have e : w = 0 ∨ w = 1 ∨ w = 2 ∨ w = 3 := by have h1 := hf.1; have h2 : w < 4 := hf.2; have h1 : 0 ≤ w := h1; omega
    rcases e with rfl | rfl | rfl | rfl
    · exact du_of du_0 h84 h92 (fun _ => rfl) (fun _ => ⟨_, rfl, rfl⟩) ⟨_, rfl, rfl⟩
    · exact du_of du_1 h84 h92 (fun _ => rfl) (fun _ => ⟨_, rfl, rfl⟩) ⟨_, rfl, rfl⟩
    · cases hv with
      | f => exact du_of du_2f h84 h92 (fun _ => rfl) (fun _ => ⟨_, rfl, rfl⟩) ⟨_, rfl, rfl⟩
      | s => exact du_of du_26 h84 h92 (fun _ => rfl) (fun _ => ⟨_, rfl, rfl⟩) ⟨_, rfl, rfl⟩
      | t => exact du_of du_27 h84 h92 (fun _ => rfl) (fun _ => ⟨_, rfl, rfl⟩) ⟨_, rfl, rfl⟩
      | n => exact du_of du_29 h84 h92 (fun _ => rfl) (fun _ => ⟨_, rfl, rfl⟩) ⟨_, rfl, rfl⟩
    · exact du_of du_3 h84 h92 (fun _ => rfl) (fun _ => ⟨_, rfl, rfl⟩) ⟨_, rfl, rfl⟩
inductive PD (σ : H) (f0 : Nat) (t : V) (fs : List (Bool × Int)) (l : Loc) : H → Prop where
  | mk {v : V} : (∀ f ∈ fs, okF f) → okR v → lk l 84 = some v → lk l 92 = some (.ref f0) → gF fs v = t → PD σ f0 t fs l σ
inductive PE (σ : H) (f0 : Nat) (fs : List (Bool × Int)) (e : V) (k : Nat) (l : Loc) : H → Prop where
  | mk : lk l 84 = some (gN fs e k) → lk l 92 = some (.ref f0) → PE σ f0 fs e k l σ
theorem due_eq {n : Nat} {fs : List (Bool × Int)} {ts : List V} {e : V} (hT : TupsAt σ ts fs) (hok : ∀ f ∈ fs, okF f) (hf : at? σ f0 = some (.list ts)) (hz : fs.length ≤ 3) (hv : okR e) (hn : n ≤ 6) : callN cfg (d + 3) (.val 1148) [.ref f0, .int n, e] σ = some (gN fs e n, σ) := by
  obtain ⟨l', σ', g1, g2⟩ := loopN (cf := callN cfg (d + 2)) (b := [.forL [97, 87] (.nm 92) duB]) (i := 98) (e := 40) (PE σ f0 fs e) (fun k l σ' n P => by
    cases P with
    | mk h1 h2 =>
      obtain ⟨l2, σ2, a1, a2⟩ := loopF (cf := callN cfg (d + 2)) (b := duB) (j := f0) (N := n + 17) (done := []) (l := (98, .int (k : Int)) :: l) (PD σ f0 (gN fs e (k + 1))) (fun fs l σ' P => by cases P; exact Kp.refl _) (fun f gs l σ' n P => by
        cases P with
        | mk ok hv h84 h92 ht =>
          obtain ⟨m', b1, b2, b3⟩ := due1 (d := d) (n := n) (σ := σ) f (ok f (.head _)) hv h84 h92
          exact ⟨m', σ, b1, .mk (fun x hx => ok x (.tail _ hx)) (hv.g1 f) b2 b3 ht⟩) fs hT hf (by rw [List.nil_append, hT.len]; omega) (by omega) (.mk hok (hv.gN fs k) h1 h2 rfl)
      cases a2 with
      | mk _ _ b1 b2 b3 =>
        have b3 : _ = gN fs e (k + 1) := b3
        refine ⟨l2, σ, ?_, .mk (by rw [← b3]; exact b1) b2⟩
        rw [show n + 40 = n + 39 + 1 from rfl, exB_step (n := n + 39) ((exS_forL (l := (98, .int (k : Int)) :: l) (n := n + 36) (show lk ((98, .int (k : Int)) :: l) 92 = some (.ref f0) from h2) hf).trans a1)]
        rfl) n (k := 0) (l := [(84, e), (93, e), (83, .int n), (92, .ref f0)]) (σ := σ) (N := 99956) (by omega) (.mk rfl rfl)
  cases g2 with
  | mk h1 h2 =>
    have f : callN cfg (d + 3) (.val 1148) [.ref f0, .int n, e] σ = bodyR (exB cfg (callN cfg (d + 2)) (99999 + 1) [(93, e), (83, .int n), (92, .ref f0)] (.asgN 84 (.nm 93) :: .forR 98 [.nm 83] [.forL [97, 87] (.nm 92) duB] :: [.ret (.nm 84)]) σ) := rfl
    have a0 : exS cfg (callN cfg (d + 2)) 99999 [(93, e), (83, .int n), (92, .ref f0)] (.asgN 84 (.nm 93)) σ = some (.next, [(84, e), (93, e), (83, .int n), (92, .ref f0)], σ) := rfl
    rw [f, exB_step (n := 99999) a0, exB_step (n := 99998) ((exS_forR (n := 99995) rfl (by omega)).trans g1)]
    show bodyR (exB cfg (callN cfg (d + 2)) (99997 + 1) l' [.ret (.nm 84)] σ) = _
    rw [exB_ret (n := 99997) (show exS cfg (callN cfg (d + 2)) 99997 l' (.ret (.nm 84)) σ = some (.ret (gN fs e n), l', σ) by
      show (evE cfg (callN cfg (d + 2)) (99995 + 1) l' (.nm 84) σ).map (fun p => (Fl.ret p.1, l', p.2)) = _
      rw [Nat.zero_add] at h1
      rw [evE_nm, h1]; rfl)]
    rfl
end
structure Deck (σ : H) (D c0 : Nat) : Prop where
  ne : D ≠ c0
  dk : ∃ x : Int, at? σ D = some (.list [.ref c0, .int x])
  cl : ∃ cs : List Int, at? σ c0 = some (.list (cs.map V.int)) ∧ cs.length ≤ 9000
noncomputable def Ext2 (a b : Nat) (σ σ' : H) : Prop := ∀ i o, i ≠ a → i ≠ b → at? σ i = some o → at? σ' i = some o
theorem Ext2.trans {a b : Nat} {σ σ' σ'' : H} (h : Ext2 a b σ σ') (g : Ext2 a b σ' σ'') : Ext2 a b σ σ'' := fun i o x y z => g i o x y (h i o x y z)
theorem Ext2.of {a b : Nat} {σ σ' : H} (h : Kp σ σ') : Ext2 a b σ σ' := fun i o _ _ z => h i o z
theorem Ext2.set {a b c : Nat} {σ σ' : H} (h : Ext2 a b σ σ') (hc : c = a ∨ c = b) (y : O) : Ext2 a b σ (setAt σ' c y) := fun i o x z w => by
  rw [set_ne (by rcases hc with rfl | rfl; exact fun e => x e.symm; exact fun e => z e.symm)]
  exact h i o x z w
section
variable {cf : CF} {n i j : Nat} {l : Loc} {σ : H} {a b : ME} {x y z : Int} {v : V} {o : O}
theorem ev_nm (h : lk l i = some v) : evE cfg cf (n + 1) l (.nm i) σ = some (v, σ) := by rw [evE_nm, h]; rfl
theorem ev_int (k : Int) : evE cfg cf (n + 1) l (.cst (.int k)) σ = some (.int k, σ) := rfl
theorem ev_bin {op : Operator} {σ1 σ2 : H} (h1 : evE cfg cf n l a σ = some (.int x, σ1)) (h2 : evE cfg cf n l b σ1 = some (.int y, σ2)) (h : opI op x y = some z) : evE cfg cf (n + 1) l (.bin op a b) σ = some (.int z, σ2) := by
  show (evE cfg cf n l a σ).bind (fun p => (evE cfg cf n l b p.2).bind fun q => binV cfg.T op p.1 q.1 q.2) = _
  rw [h1]
  show (evE cfg cf n l b σ1).bind (fun q => binV cfg.T op (.int x) q.1 q.2) = _
  rw [h2]
  show (opI op x y).map (fun z => (V.int z, σ2)) = _
  rw [h]; rfl
theorem ev_sub {σ1 σ2 : H} (h1 : evE cfg cf n l a σ = some (.ref j, σ1)) (h2 : evE cfg cf n l b σ1 = some (.int x, σ2)) (h : at? σ2 j = some o) (hs : subO x o = some v) : evE cfg cf (n + 1) l (.sub a b) σ = some (v, σ2) := by
  show (evE cfg cf n l a σ).bind (fun p => (evE cfg cf n l b p.2).bind fun q => (subV cfg.T p.1 q.1 q.2).map fun v => (v, q.2)) = _
  rw [h1]
  show (evE cfg cf n l b σ1).bind (fun q => (subV cfg.T (.ref j) q.1 q.2).map fun v => (v, q.2)) = _
  rw [h2]
  show ((at? σ2 j).bind (subO x)).map (fun v => (v, σ2)) = _
  rw [h]
  show (subO x o).map _ = _
  rw [hs]; rfl
theorem evL_cons {f : ME → H → Option (V × H)} {e : ME} {es : List ME} {vs : List V} {σ1 σ2 : H} (h1 : f e σ = some (v, σ1)) (h2 : evL f es σ1 = some (vs, σ2)) : evL f (e :: es) σ = some (v :: vs, σ2) := by
  show (f e σ).bind (fun p => (evL f es p.2).map fun q => (p.1 :: q.1, q.2)) = _
  rw [h1]
  show (evL f es σ1).map (fun q => (v :: q.1, q.2)) = _
  rw [h2]; rfl
theorem ev_call {f : V} {es : List ME} {vs : List V} {σ1 : H} {r : Option (V × H)} (h : evL (evE cfg cf (n + 1) l) es σ = some (vs, σ1)) (hc : isCst f = true) (hr : cf f vs σ1 = r) : evE cfg cf (n + 2) l (.call (.cst f) es) σ = r := by
  show (evE cfg cf (n + 1) l (.cst f) σ).bind (fun p => (evL (evE cfg cf (n + 1) l) es p.2).bind fun q => cf p.1 q.1 q.2) = _
  rw [evE_cst, hc]
  show (evL (evE cfg cf (n + 1) l) es σ).bind (fun q => cf f q.1 q.2) = _
  rw [h]; exact hr
theorem ev_tup {es : List ME} {vs : List V} {σ1 : H} (h : evL (evE cfg cf n l) es σ = some (vs, σ1)) (hz : Nat.ble vs.length 1000 = true) : evE cfg cf (n + 1) l (.tup es) σ = some (.ref σ1.length, σ1 ++ [.tup vs]) := by
  show (evL (evE cfg cf n l) es σ).bind (fun p => gd (Nat.ble p.1.length 1000) (some (V.ref p.2.length, p.2 ++ [O.tup p.1]))) = _
  rw [h]
  show gd (Nat.ble vs.length 1000) _ = _
  rw [hz]; rfl
theorem ev_list {es : List ME} {vs : List V} {σ1 : H} (h : evL (evE cfg cf n l) es σ = some (vs, σ1)) (hz : Nat.ble vs.length 1000 = true) : evE cfg cf (n + 1) l (.list es) σ = some (.ref σ1.length, σ1 ++ [.list vs]) := by
  show (evL (evE cfg cf n l) es σ).bind (fun p => gd (Nat.ble p.1.length 1000) (some (V.ref p.2.length, p.2 ++ [O.list p.1]))) = _
  rw [h]
  show gd (Nat.ble vs.length 1000) _ = _
  rw [hz]; rfl
theorem ev_eqH {σ1 σ2 : H} (h1 : evE cfg cf n l a σ = some (.int x, σ1)) (h2 : evE cfg cf n l b σ1 = some (.int y, σ2)) : evE cfg cf (n + 1) l (.cmp .Eq a b) σ = some (.bool (x == y), σ2) := by
  show (evE cfg cf n l a σ).bind (fun p => (evE cfg cf n l b p.2).bind fun q => (cmpV cfg.T .Eq p.1 q.1 q.2).map fun v => (v, q.2)) = _
  rw [h1]
  show (evE cfg cf n l b σ1).bind (fun q => (cmpV cfg.T .Eq (.int x) q.1 q.2).map fun v => (v, q.2)) = _
  rw [h2]; rfl
theorem ev_eqI (h1 : evE cfg cf n l a σ = some (.int x, σ)) (h2 : evE cfg cf n l b σ = some (.int y, σ)) : evT cfg cf (n + 1) l (.cmp .Eq a b) σ = some (x == y, σ) := by
  rw [evT_cmp, h1]
  show (evE cfg cf n l b σ).bind (fun q => (cmpB cfg.T .Eq (.int x) q.1 q.2).map fun t => (t, q.2)) = _
  rw [h2]; rfl
theorem ex_asgS {o' : O} {e : ME} (h1 : evE cfg cf n l e σ = some (v, σ)) (h2 : evE cfg cf n l a σ = some (.ref j, σ)) (h3 : evE cfg cf n l b σ = some (.int x, σ)) (h : at? σ j = some o) (hs : setSO x v o = some o') : exS cfg cf (n + 1) l (.asgS a b e) σ = some (.next, l, setAt σ j o') := by
  show (evE cfg cf n l e σ).bind (fun p => (evE cfg cf n l a p.2).bind fun q => (evE cfg cf n l b q.2).bind fun z => (setS cfg.T q.1 z.1 p.1 z.2).map fun σ3 => (Fl.next, l, σ3)) = _
  rw [h1]
  show (evE cfg cf n l a σ).bind (fun q => (evE cfg cf n l b q.2).bind fun z => (setS cfg.T q.1 z.1 v z.2).map fun σ3 => (Fl.next, l, σ3)) = _
  rw [h2]
  show (evE cfg cf n l b σ).bind (fun z => (setS cfg.T (.ref j) z.1 v z.2).map fun σ3 => (Fl.next, l, σ3)) = _
  rw [h3]
  show ((at? σ j).bind fun x' => (setSO x v x').map fun y => setAt σ j y).map (fun σ3 => (Fl.next, l, σ3)) = _
  rw [h]
  show ((setSO x v o).map fun y => setAt σ j y).map _ = _
  rw [hs]; rfl
theorem ex_ret {e : ME} {σ' : H} (h : evE cfg cf n l e σ = some (v, σ')) : exS cfg cf (n + 1) l (.ret e) σ = some (.ret v, l, σ') := by
  show (evE cfg cf n l e σ).map (fun p => (Fl.ret p.1, l, p.2)) = _
  rw [h]; rfl
theorem ex_asgN {e : ME} {σ' : H} (h : evE cfg cf n l e σ = some (v, σ')) : exS cfg cf (n + 1) l (.asgN i e) σ = some (.next, (i, v) :: l, σ') := by
  show (evE cfg cf n l e σ).map (fun p => (Fl.next, (i, p.1) :: l, p.2)) = _
  rw [h]; rfl
theorem ex_if {t : ME} {A B : List MS} {u : Bool} {σ' : H} (h : evT cfg cf n l t σ = some (u, σ')) : exS cfg cf (n + 1) l (.ifS t A B) σ = exB cfg cf n l (bif u then A else B) σ' := by
  show (evT cfg cf n l t σ).bind (fun p => exB cfg cf n l (bif p.1 then A else B) p.2) = _
  rw [h]; rfl
end
noncomputable def dr0 : ME := .sub (.nm 82) (.cst (.int 0))
noncomputable def dr1 : ME := .sub (.nm 82) (.cst (.int 1))
noncomputable def drN : ME := .cmp CmpOp.NotEq dr0 (.list [])
noncomputable def drT : ME := .and drN (.cmp CmpOp.Eq (.sub dr0 (.cst (.int 0))) (.cst (.int 0)))
noncomputable def drB : List MS := [.expr (.meth dr0 39 [.cst (.int 0)])]
section
variable {cf : CF} {n d D c0 : Nat} {l : Loc} {σ : H} {x m a : Int} {xs : List V} {cs : List Int}
theorem dr0_eq (hl : lk l 82 = some (.ref D)) (hD : at? σ D = some (.list [.ref c0, .int x])) : evE cfg cf (n + 3) l dr0 σ = some (.ref c0, σ) := ev_sub (ev_nm hl) (ev_int 0) hD rfl
theorem drN_eq (hl : lk l 82 = some (.ref D)) (hD : at? σ D = some (.list [.ref c0, .int x])) (hc : at? σ c0 = some (.list xs)) (hz : xs.length ≤ 9500) : evT cfg cf (n + 4) l drN σ = some (!xs.isEmpty, σ ++ [.list []]) := by
  unfold drN
  rw [evT_cmp, dr0_eq (n := n) hl hD]
  show ((listAt (σ ++ [O.list []]) c0).bind fun xs => (listAt (σ ++ [O.list []]) σ.length).bind fun ys => cmpL' .NotEq xs ys).map (fun t => (t, σ ++ [O.list []])) = _
  rw [listAt_of (at_app hc), listAt_of (at_end _ _)]
  show (gd (Nat.ble xs.length 10000) (some (!xs.isEmpty))).map _ = _
  rw [Nat.ble_eq_true_of_le (Nat.le_trans hz (by decide))]; rfl
theorem dr00_eq (hl : lk l 82 = some (.ref D)) (hD : at? σ D = some (.list [.ref c0, .int x])) (hc : at? σ c0 = some (.list (.int a :: xs))) : evE cfg cf (n + 4) l (.sub dr0 (.cst (.int 0))) σ = some (.int a, σ) := ev_sub (dr0_eq hl hD) (ev_int 0) hc rfl
theorem drB_eq (hl : lk l 82 = some (.ref D)) (hD : at? σ D = some (.list [.ref c0, .int x])) (hc : at? σ c0 = some (.list (.int a :: xs))) (hz : xs.length ≤ 9500) : exB cfg (callN cfg (d + 1)) (n + 6) l drB σ = some (.next, l, setAt σ c0 (.list xs)) := by
  unfold drB
  rw [exB_cons, exS_expr, evE_meth, dr0_eq (n := n) hl hD]
  show seqR _ ((((at? σ c0).bind (getMO cfg.T 39 42 39 c0)).bind fun f => (evL (evE cfg (callN cfg (d + 1)) (n + 3) l) [.cst (.int 0)] σ).bind fun q => callN cfg (d + 1) f.1 (f.2 ++ q.1) q.2).bind fun p => gd (dropV p.1) (some (Fl.next, l, p.2))) = _
  rw [hc]
  show seqR _ (((listAt σ c0).bind fun xs => (pop0 xs).map fun p => (p.1, setAt σ c0 (.list p.2))).bind fun p => gd (dropV p.1) (some (Fl.next, l, p.2))) = _
  rw [listAt_of hc]
  show seqR _ (((gd (Nat.ble xs.length 9999) (some (V.int a, xs))).map fun p => (p.1, setAt σ c0 (.list p.2))).bind fun p => gd (dropV p.1) (some (Fl.next, l, p.2))) = _
  rw [Nat.ble_eq_true_of_le (Nat.le_trans hz (by decide))]; rfl
theorem drT_eq (hl : lk l 82 = some (.ref D)) (hD : at? σ D = some (.list [.ref c0, .int x])) (hc : at? σ c0 = some (.list (cs.map V.int))) (hz : cs.length ≤ 9000) : evT cfg cf (n + 6) l drT σ = some (cs.head? == some 0, σ ++ [.list []]) := by
  show (evT cfg cf (n + 5) l drN σ).bind (fun p => bif p.1 then evT cfg cf (n + 5) l (.cmp CmpOp.Eq (.sub dr0 (.cst (.int 0))) (.cst (.int 0))) p.2 else some p) = _
  rw [drN_eq (n := n + 1) hl hD hc (by rw [List.length_map]; omega)]
  cases cs with
  | nil => rfl
  | cons a cs => exact ev_eqI (n := n + 4) (dr00_eq hl (at_app hD) (at_app hc)) (ev_int 0)
theorem drLoop (hne : D ≠ c0) (hl : lk l 82 = some (.ref D)) (cs : List Int) : ∀ {σ : H} {N : Nat}, cs.length ≤ N → cs.length ≤ 9000 → at? σ D = some (.list [.ref c0, .int x]) → at? σ c0 = some (.list (cs.map V.int)) →
    ∃ (σ' : H) (cs' : List Int), exS cfg (callN cfg (d + 1)) (N + 10) l (.whileS drT drB) σ = some (.next, l, σ') ∧ Ext2 D c0 σ σ' ∧ at? σ' D = some (.list [.ref c0, .int x]) ∧ at? σ' c0 = some (.list (cs'.map V.int)) ∧ cs'.length ≤ cs.length := by
  have stop : ∀ {cs : List Int} {σ : H} {N : Nat}, cs.length ≤ 9000 → at? σ D = some (.list [.ref c0, .int x]) → at? σ c0 = some (.list (cs.map V.int)) → (cs.head? == some 0) = false →
      ∃ (σ' : H) (cs' : List Int), exS cfg (callN cfg (d + 1)) (N + 10) l (.whileS drT drB) σ = some (.next, l, σ') ∧ Ext2 D c0 σ σ' ∧ at? σ' D = some (.list [.ref c0, .int x]) ∧ at? σ' c0 = some (.list (cs'.map V.int)) ∧ cs'.length ≤ cs.length := fun {cs σ N} hz hD hc hh =>
    ⟨σ ++ [.list []], cs, by rw [exS_while, drT_eq (n := N + 3) hl hD hc hz, hh]; rfl, .of (Kp.app _ _), at_app hD, at_app hc, Nat.le_refl _⟩
  induction cs with
  | nil => exact fun hN hz hD hc => stop hz hD hc rfl
  | cons a cs ih =>
    intro σ N hN hz hD hc
    cases hh : ((a :: cs).head? == some 0) with
    | false => exact stop hz hD hc hh
    | true =>
      rw [List.length_cons] at hN hz
      obtain ⟨N, rfl⟩ : ∃ M, N = M + 1 := ⟨N - 1, by omega⟩
      have hc1 := at_app (l' := [O.list []]) hc
      obtain ⟨σ', cs', g1, g2, g3, g4, g5⟩ := ih (σ := setAt (σ ++ [.list []]) c0 (.list (cs.map V.int))) (N := N) (by omega) (by omega) (by rw [set_ne hne.symm]; exact at_app hD) (set_eq hc1)
      refine ⟨σ', cs', ?_, ((Ext2.of (Kp.app σ [.list []])).set (.inr rfl) _).trans g2, g3, g4, Nat.le_succ_of_le g5⟩
      rw [show N + 1 + 10 = N + 10 + 1 from by omega, exS_while, drT_eq (n := N + 4) hl hD hc (by rw [List.length_cons]; omega), hh]
      show loopR (fun l1 σ1 => exS cfg (callN cfg (d + 1)) (N + 10) l1 (.whileS drT drB) σ1) (exB cfg (callN cfg (d + 1)) (N + 4 + 6) l drB (σ ++ [.list []])) = _
      rw [drB_eq hl (at_app hD) hc1 (by rw [List.length_map]; omega)]
      exact g1
end
theorem fmod_in (a m : Int) (h : 0 < m) : 0 ≤ a.fmod m ∧ a.fmod m < m := ⟨Int.fmod_nonneg_of_pos a h, Int.fmod_lt_of_pos a h⟩
theorem op_mod {m : Int} (h : 0 < m) (a : Int) : opI .Mod a m = some (a.fmod m) := by
  show gd (!(m == 0)) _ = _
  rw [show (m == 0) = false from beq_eq_false_iff_ne.mpr (Int.ne_of_gt h)]; rfl
theorem op_div {m : Int} (h : 0 < m) (h2 : m < 1000) (a : Int) : opI .FloorDiv a m = some (a.fdiv m) := by
  show gd (decide (0 < m ∧ m < 1000)) _ = _
  rw [decide_eq_true ⟨h, h2⟩]; rfl
noncomputable def drA : List MS := [.asgN 84 (.bin Operator.Mod (.sub dr0 (.cst (.int 0))) (.nm 83)), .asgS dr0 (.cst (.int 0)) (.bin Operator.FloorDiv (.sub dr0 (.cst (.int 0))) (.nm 83)), .ret (.nm 84)]
noncomputable def drE : ME := .bin Operator.Mod (.bin Operator.Add (.bin Operator.Mult dr1 (.cst (.int 48271))) (.cst (.int 11))) (.cst (.int 2147483647))
noncomputable def drR : ME := .bin Operator.Mod (.bin Operator.FloorDiv dr1 (.cst (.int 64))) (.nm 83)
section
variable {cf : CF} {n d D c0 : Nat} {l : Loc} {σ : H} {x m a : Int} {xs : List V}
theorem dr1_eq (hl : lk l 82 = some (.ref D)) (hD : at? σ D = some (.list [.ref c0, .int x])) : evE cfg cf (n + 3) l dr1 σ = some (.int x, σ) := ev_sub (ev_nm hl) (ev_int 1) hD rfl
theorem drA_eq (hl : lk l 82 = some (.ref D)) (hm : lk l 83 = some (.int m)) (h0 : 0 < m) (h1 : m < 1000) (hD : at? σ D = some (.list [.ref c0, .int x])) (hc : at? σ c0 = some (.list (.int a :: xs))) : ∃ l', exB cfg cf (n + 20) l drA σ = some (.ret (.int (a.fmod m)), l', setAt σ c0 (.list (.int (a.fdiv m) :: xs))) := by
  have hl' : lk ((84, .int (a.fmod m)) :: l) 82 = some (.ref D) := hl
  refine ⟨(84, .int (a.fmod m)) :: l, ?_⟩
  unfold drA
  rw [exB_step (n := n + 19) (ex_asgN (n := n + 18) (ev_bin (n := n + 17) (dr00_eq (n := n + 13) hl hD hc) (ev_nm (n := n + 16) hm) (op_mod h0 a))),
    exB_step (n := n + 18) (ex_asgS (n := n + 17) (ev_bin (n := n + 16) (dr00_eq (n := n + 12) hl' hD hc) (ev_nm (n := n + 15) (i := 83) hm) (op_div h0 h1 a)) (dr0_eq (n := n + 14) hl' hD) (ev_int (n := n + 16) 0) hc (o' := .list (.int (a.fdiv m) :: xs)) rfl),
    exB_ret (n := n + 17) (ex_ret (n := n + 16) (ev_nm (n := n + 15) rfl))]
theorem drM_eq (hl : lk l 82 = some (.ref D)) (hm : lk l 83 = some (.int m)) (h0 : 0 < m) (hD : at? σ D = some (.list [.ref c0, .int x])) :
    ∃ y l', exB cfg cf (n + 20) l [.asgS (.nm 82) (.cst (.int 1)) drE, .ret drR] σ = some (.ret (.int ((y.fdiv 64).fmod m)), l', setAt σ D (.list [.ref c0, .int y])) := by
  refine ⟨(x * 48271 + 11).fmod 2147483647, l, ?_⟩
  unfold drE drR
  rw [exB_step (n := n + 19) (ex_asgS (n := n + 18) (ev_bin (n := n + 17) (ev_bin (n := n + 16) (ev_bin (n := n + 15) (dr1_eq (n := n + 12) hl hD) (ev_int (n := n + 14) 48271) (z := x * 48271) rfl) (ev_int (n := n + 15) 11) (z := x * 48271 + 11) rfl) (ev_int (n := n + 16) 2147483647) (op_mod (by decide) _)) (ev_nm (n := n + 17) hl) (ev_int (n := n + 17) 1) hD (o' := .list [.ref c0, .int ((x * 48271 + 11).fmod 2147483647)]) rfl),
    exB_ret (n := n + 18) (ex_ret (n := n + 17) (ev_bin (n := n + 16) (ev_bin (n := n + 15) (dr1_eq (n := n + 12) hl (set_eq hD)) (ev_int (n := n + 14) 64) (op_div (by decide) (by decide) _)) (ev_nm (n := n + 15) hm) (op_mod h0 _)))]
theorem draw_eq (h : Deck σ D c0) (h0 : 0 < m) (h1 : m < 1000) : ∃ σ' r, callN cfg (d + 2) (.val 1106) [.ref D, .int m] σ = some (.int r, σ') ∧ 0 ≤ r ∧ r < m ∧ Deck σ' D c0 ∧ Ext2 D c0 σ σ' := by
  obtain ⟨x, hD⟩ := h.dk
  obtain ⟨cs, hc, hz⟩ := h.cl
  obtain ⟨σ1, cs1, a1, a2, a3, a4, a5⟩ := drLoop (d := d) (l := [(83, .int m), (82, .ref D)]) h.ne rfl cs (N := 99989) (by omega) hz hD hc
  have a1 : exS cfg (callN cfg (d + 1)) 99999 [(83, .int m), (82, .ref D)] (.whileS drT drB) σ = some (.next, [(83, .int m), (82, .ref D)], σ1) := a1
  have f : callN cfg (d + 2) (.val 1106) [.ref D, .int m] σ = bodyR (exB cfg (callN cfg (d + 1)) (99999 + 1) [(83, .int m), (82, .ref D)] (.whileS drT drB :: .ifS drN drA [] :: [.asgS (.nm 82) (.cst (.int 1)) drE, .ret drR]) σ) := rfl
  have a6 := at_app (l' := [O.list []]) a3
  have a7 := at_app (l' := [O.list []]) a4
  have t := drN_eq (cf := callN cfg (d + 1)) (n := 99993) (l := [(83, .int m), (82, .ref D)]) rfl a3 a4 (by rw [List.length_map]; omega)
  have X := a2.trans (Ext2.of (a := D) (b := c0) (Kp.app σ1 [.list []]))
  rw [f, exB_step (n := 99999) a1]
  cases cs1 with
  | nil =>
    obtain ⟨y, l', b1⟩ := drM_eq (cf := callN cfg (d + 1)) (n := 99978) (l := [(83, .int m), (82, .ref D)]) (m := m) rfl rfl h0 a6
    refine ⟨_, (y.fdiv 64).fmod m, ?_, (fmod_in _ _ h0).1, (fmod_in _ _ h0).2, ⟨h.ne, ⟨y, set_eq a6⟩, ⟨[], by rw [set_ne h.ne]; exact a7, by decide⟩⟩, X.set (.inl rfl) _⟩
    have s1 : exS cfg (callN cfg (d + 1)) 99998 [(83, .int m), (82, .ref D)] (.ifS drN drA []) σ1 = some (.next, [(83, .int m), (82, .ref D)], σ1 ++ [.list []]) := (ex_if (n := 99997) (u := false) (A := drA) (B := []) t).trans (exB_nil cfg (callN cfg (d + 1)) 99996 _ _)
    have b1 : exB cfg (callN cfg (d + 1)) 99998 [(83, .int m), (82, .ref D)] [.asgS (.nm 82) (.cst (.int 1)) drE, .ret drR] (σ1 ++ [.list []]) = _ := b1
    rw [exB_step (n := 99998) s1, b1]
    rfl
  | cons a cs1 =>
    obtain ⟨l', b1⟩ := drA_eq (cf := callN cfg (d + 1)) (n := 99977) (l := [(83, .int m), (82, .ref D)]) (m := m) rfl rfl h0 h1 a6 a7
    rw [List.length_cons] at a5
    refine ⟨_, a.fmod m, ?_, (fmod_in _ _ h0).1, (fmod_in _ _ h0).2, ⟨h.ne, ⟨x, by rw [set_ne h.ne.symm]; exact a6⟩, ⟨a.fdiv m :: cs1, set_eq a7, by rw [List.length_cons]; omega⟩⟩, X.set (.inr rfl) _⟩
    have s1 : exS cfg (callN cfg (d + 1)) 99998 [(83, .int m), (82, .ref D)] (.ifS drN drA []) σ1 = _ := (ex_if (n := 99997) (u := true) (A := drA) (B := []) t).trans b1
    rw [exB_ret (n := 99998) s1]
    rfl
end
end MP
end
section
open PySem PySem.W PyProof.Rows PySem.Calls
namespace MP
inductive Src where
  | rng (n : Nat)
  | lst (j : Nat) (la : Addr)
noncomputable def srcAt (src : Src) (k : Nat) (σ : H) : Option (Option V) := match src with
  | .rng n => some (bif Nat.ble n k then none else some (.int k))
  | .lst j _ => (listAt σ j).map fun xs => at? xs k
structure CM where
  elt : ME
  is : List Nat
  cond : Option ME
section pl
variable (c : Cfg) (cf : CF) (n : Nat) (src : Src) (lf : Loc) (cm : CM)
noncomputable abbrev RL := Option (List V × H)
noncomputable def cmC (l1 : Loc) (σ : H) : Option (Bool × H) := cm.cond.elim (some (true, σ)) fun t => evT c cf n l1 t σ
noncomputable def cmX (g : H → RL) (l1 : Loc) (σ : H) : RL := (evE c cf n l1 cm.elt σ).bind fun q => (g q.2).map fun z => (q.1 :: z.1, z.2)
noncomputable def cmT (g : H → RL) (σ : H) (v : V) : RL := (tgtPut σ lf cm.is v).bind fun l1 => (cmC c cf n cm l1 σ).bind fun p => bif p.1 then cmX c cf n cm g l1 p.2 else g p.2
noncomputable def cmpL : Nat → Nat → H → RL
  | 0 => fun _ _ => none
  | f + 1 => fun k σ => (srcAt src k σ).bind fun o => o.elim (some ([], σ)) (cmT c cf n lf cm (cmpL f (k + 1)) σ)
end pl
noncomputable def ItO (src : Src) (o : Obj) (k : Nat) : Prop := match src with
  | .rng n => k ≤ n ∧ o = rngO k ((n : Int) - k)
  | .lst _ la => o.cls = .type "list_iterator" ∧ o.data = .fields #[.ref la, .int k 0]
noncomputable def SrcOK (ρ : List RA) : Src → Prop
  | .rng _ => True
  | .lst j la => VR ρ (.ref j) (.ref la)
theorem SrcOK.le {ρ ρ' : List RA} {news news' : Led} (L : Le ρ ρ' news news') {src : Src} (h : SrcOK ρ src) : SrcOK ρ' src := by
  cases src with
  | rng n => trivial
  | lst j la => exact L.vr h
section st
variable {prog : Program} {w : World} {K : Frag} {NM : List Str} {c : Cfg} {env : Env} {L : Addr} {h₀ : Heap} {A : Around} {d : Nat} {cf : CF}
theorem next_ok {src : Src} {ρ : List RA} {σ : H} {m : Str → Option Value} {news : Led} {s : Shared} (D : Dy NM h₀ L ρ σ m news s.heap) (hh : A.handled = none) {it : Addr} {o : Obj} {k : Nat} (hm : (it, o) ∈ news) (ho : it ∉ adrs ρ) (hi : ItO src o k) (so : SrcOK ρ src) {r : Option V} (hs : srcAt src k σ = some r) {Q : Option Value → Shared → Prop} {E : Value → Shared → Prop}
    (q0 : r = none → ∀ h', Dy NM h₀ L ρ σ m (dropA it news) h' → Q none { s with heap := h' })
    (q1 : ∀ v, r = some v → ∀ u o' h' tk, VR ρ v u → ItO src o' (k + 1) → h'.get? it = some o' → Dy NM h₀ L ρ σ m (upd it o' news) h' → Q (some u) { s with heap := h', toks := tk }) :
    wpAny (model prog w) A (pyNext (.ref it)) Q E s := by
  have hg := (D.N _ hm).1
  cases src with
  | rng n =>
    obtain ⟨hk, rfl⟩ := hi
    have hs : some (bif Nat.ble n k then none else some (V.int k)) = some r := hs
    revert hs
    cases hb : Nat.ble n k with
    | false =>
      intro hs
      have hlt : k < n := Nat.lt_of_not_le fun c => by rw [Nat.ble_eq_true_of_le c] at hb; cases hb
      refine wpAny_pyNext_range_item hg (by omega) fun h2 R2 SB => ?_
      have R2 : h2.get? it = some (rngO ((k + 1 : Nat) : Int) ((n : Int) - ((k + 1 : Nat) : Int))) := by
        rw [show (n : Int) - ((k + 1 : Nat) : Int) = (n : Int) - k - 1 by omega]
        exact R2
      exact q1 _ (Option.some.inj hs).symm _ _ _ _ (.int _ _) ⟨hlt, rfl⟩ R2 (D.offUpd hm ho SB R2)
    | true =>
      intro hs
      have := Nat.le_of_ble_eq_true hb
      exact wpAny_pyNext_range_end hh hg (by omega) fun h2 EB => q0 (Option.some.inj hs).symm _ (D.offDrop hm ho EB)
  | lst j la =>
    obtain ⟨i1, i2⟩ := hi
    have hit : s.heap.IsListIter it la k := ⟨o, hg, i1, i2⟩
    refine mpE hs fun xs hxs hs => D.isList (listAt_ok hxs) so rfl fun a1 vs n1 e1 p1 mm1 r1 il1 => ?_
    cases e1
    cases r with
    | some v =>
      obtain ⟨u, hu, hvr⟩ := r1.at hs
      refine wpAny_pyNext_list_item hit il1 (by simpa using hu) fun h2 I2 SB => ?_
      obtain ⟨o2, g2, g3, g4⟩ := id I2
      exact q1 _ rfl _ _ _ _ hvr ⟨g3, g4⟩ g2 (D.offUpd hm ho SB g2)
    | none => exact wpAny_pyNext_list_end hh hit il1 (by simpa using r1.at_none hs) fun h2 EB => q0 rfl _ (D.offDrop hm ho EB)
theorem ownedC {M : Model} {t : PySem.Expr} {src : Src} {it : Addr} {o : Obj} {k : Nat} {s : Shared} (hg : s.heap.get? it = some o) (hi : ItO src o k) (v : Value) {Q : Unit → Shared → Prop} {E : Value → Shared → Prop} (q : Q () s) : wpAny M A (letOwnedTupleGo t (.ref it) v) Q E s := by
  cases src with
  | lst j la => exact owned_ok ⟨o, hg, hi.1, hi.2⟩ v q
  | rng n =>
    have tup : wpAny M A (do
        let (.ref r, .ref a) := ((Value.ref it), v) | return
        let o ← load r
        match o.cls, o.data with
        | .type n, .fields vs =>
          if ["enumerate", "zip", "dict_itemiterator", "dict_reverseitemiterator", "odict_iterator", "itertools.zip_longest", "itertools.pairwise"].contains n && vs[0]? == some (rawInt a) then
            rule "for.unpacks-the-owned-tuple"
            updateField r 0 .none
        | _, _ => pure ()) Q E s := by
      cases v <;> first | exact wpAny_pure q | skip
      obtain ⟨_, rfl⟩ := hi
      refine wpAny_bind (wpAny_load hg ?_)
      dsimp only [rngO]
      rw [if_neg (by rw [show (["enumerate", "zip", "dict_itemiterator", "dict_reverseitemiterator", "odict_iterator", "itertools.zip_longest", "itertools.pairwise"] : List String).contains "range_iterator" = false from by decide]; simp)]
      exact wpAny_pure q
    cases t <;> first | exact wpAny_pure q | exact tup
end st
theorem led_uniq {news : Led} (nd : (news.map (·.1)).Nodup) {a : Addr} {o o' : Obj} (h : (a, o) ∈ news) (h' : (a, o') ∈ news) : o = o' := by
  induction news with
  | nil => cases h
  | cons p r ih =>
    rw [List.map_cons, List.nodup_cons] at nd
    rcases List.mem_cons.mp h with e | h1
    · rcases List.mem_cons.mp h' with e' | h2
      · rw [← e] at e'; cases e'; rfl
      · exact absurd (by rw [← e]; exact List.mem_map.mpr ⟨_, h2, rfl⟩) nd.1
    · rcases List.mem_cons.mp h' with e' | h2
      · exact absurd (by rw [← e']; exact List.mem_map.mpr ⟨_, h1, rfl⟩) nd.1
      · exact ih nd.2 h1 h2
theorem NsO.uniq {o : Obj} {m m' : Str → Option Value} (h : NsO o m) (h' : NsO o m') (x : Str) : m x = m' x := by
  obtain ⟨es, ep, h1, _, h2⟩ := h
  obtain ⟨es', ep', h1', _, h2'⟩ := h'
  rw [h1] at h1'
  cases h1'
  rw [← h2, ← h2']
theorem upd_upd {a : Addr} {o o' : Obj} {news : Led} : upd a o' (upd a o news) = upd a o' news := by
  unfold upd
  rw [List.map_map]
  refine List.map_congr_left fun p _ => ?_
  show (if (if p.1 = a then (a, o) else p).1 = a then (a, o') else (if p.1 = a then (a, o) else p)) = _
  by_cases h : p.1 = a
  · rw [if_pos h, if_pos h, if_pos rfl]
  · rw [if_neg h, if_neg h]
theorem upd_same {a : Addr} {o : Obj} {news : Led} (nd : (news.map (·.1)).Nodup) (hm : (a, o) ∈ news) : upd a o news = news := by
  unfold upd
  conv => rhs; rw [← List.map_id news]
  refine List.map_congr_left fun p hp => ?_
  by_cases h : p.1 = a
  · rw [if_pos h]
    obtain ⟨b, o'⟩ := p
    have h : b = a := h
    subst h
    rw [led_uniq nd hm hp]
    rfl
  · rw [if_neg h]; rfl
section st
variable {prog : Program} {w : World} {K : Frag} {NM : List Str} {c : Cfg} {env : Env} {L : Addr} {h₀ : Heap} {A : Around} {d : Nat} {cf : CF}
theorem LocR.putX {ρ : List RA} {news news' : Led} {l : Loc} {m : Str → Option Value} (nm : nmOk NM) (hl : LocR NM env L ρ news l m) {i : Nat} {x : Str} (hx : at? NM i = some x) {v : V} {u : Value} (h1 : Rd env L ρ news' m x u) (h2 : ∀ y u, y ≠ x → Rd env L ρ news m y u → Rd env L ρ news' m y u) (hv : VR ρ v u) : LocR NM env L ρ news' ((i, v) :: l) m := by
  intro j w e y hy
  refine cdE e (fun h e2 => ?_) fun h e2 => ?_
  · rw [← nbeq.mp h, hx] at hy
    cases hy
    cases e2
    exact ⟨u, h1, hv⟩
  · obtain ⟨u', g1, g2⟩ := hl j w e2 y hy
    refine ⟨u', h2 y u' (fun c => ?_) g1, g2⟩
    subst c
    rw [nbeq.mpr (nm _ _ _ hx hy)] at h
    cases h
structure Own (env : Env) (ρ : List RA) (news : Led) (o : Obj) : Prop where
  led : (env.locals, o) ∈ news
  off : env.locals ∉ adrs ρ
  ns : ∃ m, NsO o m
noncomputable def PostO (NM : List Str) (env : Env) (h₀ : Heap) (L : Addr) (ρ : List RA) (news : Led) (m : Str → Option Value) (σ : H) (l : Loc) (Q : Unit → Shared → Prop) (s : Shared) : Prop := ∀ o' h' tk, Dy NM h₀ L ρ σ m (upd env.locals o' news) h' → Own env ρ (upd env.locals o' news) o' → LocR NM env L ρ (upd env.locals o' news) l m → Q () { heap := h', gens := s.gens, drawn := s.drawn, toks := tk, os := s.os }
theorem storeC_ok (C : Cx prog w K NM env L h₀ A d) (nm : nmOk NM) {i : Nat} {x : Str} (hb : locB NM env.scope.names i x = true) {σ : H} {s : Shared} {ρ news m} (D : Dy NM h₀ L ρ σ m news s.heap) {l : Loc} (hl : LocR NM env L ρ news l m) {oC : Obj} (O : Own env ρ news oC) {v : V} {u : Value} (hv : VR ρ v u)
    {Q : Unit → Shared → Prop} {E : Value → Shared → Prop} (q : PostO NM env h₀ L ρ news m σ ((i, v) :: l) Q s) : wpAny (model prog w) A (storeName env x u) Q E s := by
  obtain ⟨b1, b2, b3⟩ := locB_ok hb
  obtain ⟨mC, hN⟩ := O.ns
  obtain ⟨es, ep, e1, e2, e3⟩ := id hN
  refine wpAny_storeName_local b2 ⟨oC, es, ep, (D.N _ O.led).1, e1, e2, e3⟩ (fun h' hn hs => ?_) (by rw [C.kf]; rfl)
  obtain ⟨o', es', ep', g1, g2, g3, g4⟩ := hn
  have hN' : NsO o' (fun y => if y = x then some u else mC y) := ⟨es', ep', g2, g3, g4⟩
  have hm := upd_self (o := o') O.led
  refine q _ _ _ (D.offUpd O.led O.off hs g1) ⟨hm, O.off, _, hN'⟩ (hl.putX nm b1 (.inr (.inr ⟨b2, o', _, hm, O.off, hN', if_pos rfl⟩)) (fun y u' hne h => ?_) hv)
  rcases h with h | ⟨a1, b, o, a2, a3, a4, a5⟩ | ⟨a1, o, m₂, a2, a3, a4, a5⟩
  · exact .inl h
  · refine .inr (.inl ⟨a1, b, o, a2, upd_other a3 fun e => ?_, a4, a5⟩)
    have e : b = env.locals := e
    rw [e] at a3
    rw [led_uniq D.nd a3 O.led, e1] at a5
    cases a5
  · rw [led_uniq D.nd a2 O.led] at a4
    exact .inr (.inr ⟨a1, o', _, hm, O.off, hN', by rw [if_neg hne, hN.uniq a4]; exact a5⟩)
theorem orderC_ok (C : Cx prog w K NM env L h₀ A d) (nm : nmOk NM) {is : List Nat} {σ : H} {ρ : List RA} {m : Str → Option Value} {Q : Unit → Shared → Prop} {E : Value → Shared → Prop} {l' : Loc} :
    ∀ {es : List PySem.Expr} {vs : List V} {us : List Value} {l : Loc} {s : Shared} {news} {oC : Obj}, tupB NM env.scope.names is es = true → putAll l is vs = some l' → VsR ρ vs us → Dy NM h₀ L ρ σ m news s.heap → LocR NM env L ρ news l m → Own env ρ news oC → PostO NM env h₀ L ρ news m σ l' Q s →
    wpAny (model prog w) A (assignInOrder ((assignEach es env).map (·.2)) us) Q E s := by
  induction is with
  | nil =>
    intro es vs us l s news oC hb hp hv D hl O q
    obtain ⟨h1, h2⟩ := put_nil' hp hv
    rw [tupB_nil hb, h1]
    refine wpAny_pure (q oC s.heap s.toks ?_ ?_ ?_) <;> rw [upd_same D.nd O.led]
    · exact D
    · exact O
    · exact h2 ▸ hl
  | cons i is ih =>
    intro es vs us l s news oC hb hp hv D hl O q
    exact tupB_cons hb fun x p r hx b1 b2 => put_cons' hp hv fun v vs u us' hu hv hr hp => by
      rw [hx, hu]
      exact (assignInOrder_cons (PyProof.Rows.assign_Name (storeC_ok C nm b1 D hl O hv fun o' h' tk D' O' hl' => ih (s := ⟨h', s.gens, s.drawn, tk, s.os⟩) b2 hp hr D' hl' O' fun o2 h2 tk2 => by rw [upd_upd]; exact q o2 h2 tk2)) : wpAny _ _ (assignInOrder (assign (.Name x p) _ :: _) _) _ _ _)
theorem tgtC_ok (C : Cx prog w K NM env L h₀ A d) (nm : nmOk NM) {is : List Nat} {t : PySem.Expr} (hb : tgtB NM env.scope.names is t = true) {v : V} {u : Value} {l l1 : Loc} {σ : H} {s : Shared} {ρ news m} (hu : VR ρ v u) (D : Dy NM h₀ L ρ σ m news s.heap) (hl : LocR NM env L ρ news l m) {oC : Obj} (O : Own env ρ news oC)
    (he : tgtPut σ l is v = some l1) {Q : Unit → Shared → Prop} {E : Value → Shared → Prop} (q : PostO NM env h₀ L ρ news m σ l1 Q s) : wpAny (model prog w) A (assign t env u) Q E s :=
  tgt_of hb he (fun i x p ht hb hl1 => by
    rw [ht]
    rw [hl1] at q
    exact PyProof.Rows.assign_Name (storeC_ok C nm hb D hl O hu q))
  fun es k p z ys ht hb hv hy he => D.isTup hy hu hv fun a vs hu _ r1 l1 => by
    rw [ht, hu]
    obtain ⟨b1, b2⟩ := tupB_len (env := env) hb
    exact unpackN_ D.F D.N l1 C.hh (by rw [b1, putAll_len he, List.size_toArray, r1.length]) b2 fun h' F' N' => orderC_ok C nm (s := ⟨h', s.gens, s.drawn, s.toks, s.os⟩) hb he r1 (D.same F' N') hl O q
end st
theorem compLoop_own {prog : Program} {w : World} {A : Around} {R : Result → Shared → Prop} {s : Shared} {elt target iter : PySem.Expr} {ifs : List PySem.Expr} {scope : PySem.Scope} {pos : Pos} {it acc : Value} {env : Env} (I : Nat → Shared → Prop)
    (turn : ∀ n s, I n s → wpAny (model prog w) A (pyNext it) (fun r s₁ => match r with
      | none => R (.ok .next) s₁
      | some v => wpAny (model prog w) A (letOwnedTupleGo target it v) (fun _ s₁' => wpAny (model prog w) A (assign target env v) (fun _ s₂ =>
          wpAny (model prog w) A (forIn ifs true fun c r => if r = true then do let ok ← isTrue c env (eval c env); pure (ForInStep.yield ok) else pure (ForInStep.yield r)) (fun ok s₃ =>
            if ok = true then wpAny (model prog w) A (eval elt env) (fun x s₄ =>
              wpAny (model prog w) A (call (.builtin "list.append") [acc, x]) (fun _ s₅ => ∃ m, m < n ∧ I m s₅) (notedBy (model prog w) A env fun e s' => R (.error e) s') s₄) (notedBy (model prog w) A env fun e s' => R (.error e) s') s₃
            else ∃ m, m < n ∧ I m s₃) (notedBy (model prog w) A env fun e s' => R (.error e) s') s₂) (notedBy (model prog w) A env fun e s' => R (.error e) s') s₁') (notedBy (model prog w) A env fun e s' => R (.error e) s') s₁) (notedBy (model prog w) A env fun e s' => R (.error e) s') s)
    (n : Nat) (h : I n s) : codeAny (model prog w) A (.compLoop (.ListComp elt [⟨target, iter, ifs, 0⟩] scope pos) 0 it acc env) R s := by
  refine codeAny_loop rfl I (fun n s hI => ?_) n h
  show wpAny _ A ((compTurn (.ListComp elt [⟨target, iter, ifs, 0⟩] scope pos) 0 it acc env).onRaise (fun x => do noteFrame x env; theTreesLotGoes x)) _ _ s
  refine wpAny_noted ?_
  rw [compTurn_list]
  refine wpAny_bind (wpAny_standAt (wpAny_bind (wpAny_mono (turn n s hI) (fun r s₁ h₁ => ?_) fun _ _ e => e)))
  cases r with
  | none => exact wpAny_pure h₁
  | some v =>
    refine wpAny_bind (wpAny_mono h₁ (fun _ s₁' h₁' => wpAny_bind (wpAny_mono h₁' (fun _ s₂ h₂ => wpAny_bind (wpAny_mono h₂ (fun ok s₃ h₃ => ?_) fun _ _ e => e)) fun _ _ e => e)) fun _ _ e => e)
    cases ok with
    | false => exact wpAny_pure ⟨rfl, h₃⟩
    | true => exact wpAny_bind (wpAny_bind (wpAny_mono h₃ (fun x s₄ h₄ => wpAny_bind (wpAny_mono h₄ (fun _ s₅ h₅ => wpAny_pure (wpAny_pure ⟨rfl, h₅⟩)) fun _ _ e => e)) fun _ _ e => e))
theorem Dy.offSet {NM : List Str} {h₀ : Heap} {L : Addr} {ρ : List RA} {σ : H} {m : Str → Option Value} {news : Led} {h h' : Heap} (D : Dy NM h₀ L ρ σ m news h) {a : Addr} {o : Obj} (ho : a ∉ adrs ρ) (F : Fr h₀ L h' m) (N : News h₀ L h' (upd a o news)) : Dy NM h₀ L ρ σ m (upd a o news) h' :=
  ⟨F, N, by rw [upd_fst]; exact D.nd, D.P.sub fun q hq hz => upd_other hq fun e => ho (e ▸ hz)⟩
noncomputable def ifsB (K : Frag) (NM : List Str) (ns : Nms) (ct : Option ME) (es : List PySem.Expr) : Bool := ct.elim es.isEmpty fun t => ob (arg1 es) fun e => chkT K NM ns 60 t e.1
structure Apart (env : Env) (news₀ : Led) (I Da : Addr) : Prop where
  i : I ∉ news₀.map (·.1)
  d : Da ∉ news₀.map (·.1)
  c : env.locals ∉ news₀.map (·.1)
  di : Da ≠ I
  dc : Da ≠ env.locals
  ic : I ≠ env.locals
structure CmS (env : Env) (ρ₀ : List RA) (news₀ : Led) (src : Src) (I Da : Addr) (ρ : List RA) (news : Led) (k : Nat) (rs : List V) : Prop where
  le : Le ρ₀ ρ news₀ news
  so : SrcOK ρ src
  it : ∃ o, (I, o) ∈ news ∧ ItO src o k
  io : I ∉ adrs ρ
  acc : ∃ ys nD, (Da, listOf (ys : List Value).toArray nD) ∈ news ∧ VsR ρ rs ys
  ao : Da ∉ adrs ρ
  own : ∃ o, Own env ρ news o
inductive InvC (NM : List Str) (env : Env) (h₀ : Heap) (L : Addr) (c : Cfg) (cf : CF) (n : Nat) (src : Src) (lf : Loc) (cm : CM) (rs : List V) (σ' : H) (f : Nat) (m : Str → Option Value) (ρ₀ : List RA) (news₀ : Led) (I Da : Addr) (s : Shared) : Nat → Shared → Prop where
  | mk {j k1 ρ1 news1 σ1 h1 tk rs1 rs2} : Dy NM h₀ L ρ1 σ1 m news1 h1 → CmS env ρ₀ news₀ src I Da ρ1 news1 k1 rs1 → cmpL c cf n src lf cm j k1 σ1 = some (rs2, σ') → rs = rs1 ++ rs2 → rs1.length + j ≤ f → InvC NM env h₀ L c cf n src lf cm rs σ' f m ρ₀ news₀ I Da s j { heap := h1, gens := s.gens, drawn := s.drawn, toks := tk, os := s.os }
section st
variable {prog : Program} {w : World} {K : Frag} {NM : List Str} {c : Cfg} {env : Env} {L : Addr} {h₀ : Heap} {A : Around} {d : Nat} {cf : CF}
section turn
variable {ρ₀ : List RA} {news₀ : Led} {src : Src} {I Da : Addr} {ρ1 ρ4 : List RA} {news1 news4 : Led} {k1 : Nat} {rs1 : List V}
theorem CmS.upd (S : CmS env ρ₀ news₀ src I Da ρ1 news1 k1 rs1) (a : Apart env news₀ I Da) {o : Obj} (O : Own env ρ1 (MP.upd env.locals o news1) o) : CmS env ρ₀ news₀ src I Da ρ1 (MP.upd env.locals o news1) k1 rs1 := by
  obtain ⟨oI, i1, i2⟩ := S.it
  obtain ⟨ys, nD, d1, d2⟩ := S.acc
  exact ⟨S.le.offUpd a.c, S.so, ⟨oI, upd_other i1 a.ic, i2⟩, S.io, ⟨ys, nD, upd_other d1 a.dc, d2⟩, S.ao, ⟨o, O⟩⟩
theorem CmS.mono (S : CmS env ρ₀ news₀ src I Da ρ1 news1 k1 rs1) (X : Le ρ1 ρ4 news1 news4) : CmS env ρ₀ news₀ src I Da ρ4 news4 k1 rs1 := by
  obtain ⟨oI, i1, i2⟩ := S.it
  obtain ⟨ys, nD, d1, d2⟩ := S.acc
  obtain ⟨o, O⟩ := S.own
  obtain ⟨x1, x2⟩ := X.keep _ i1 S.io
  obtain ⟨y1, y2⟩ := X.keep _ d1 S.ao
  obtain ⟨z1, z2⟩ := X.keep _ O.led O.off
  exact ⟨S.le.trans X, S.so.le X, ⟨oI, x1, i2⟩, x2, ⟨ys, nD, y1, X.vsr d2⟩, y2, ⟨o, z1, z2, O.ns⟩⟩
end turn
variable {n : Nat} {src : Src} {lf : Loc} {cm : CM} {rs : List V} {σ' : H} {f : Nat} {m : Str → Option Value} {ρ₀ : List RA} {news₀ : Led} {I Da : Addr} {s : Shared}
theorem comp_add (HE : EvOK prog w K NM c env L h₀ A cf n) (hf : f ≤ 1000) (ap : Apart env news₀ I Da) {elt : PySem.Expr} (hE : chkE K NM env.scope.names 60 cm.elt elt = true) {l1 : Loc} {j k1 : Nat} {σ4 : H} {rs1 rs2 : List V} (he : cmX c cf n cm (cmpL c cf n src lf cm j k1) l1 σ4 = some (rs2, σ')) (hrs : rs = rs1 ++ rs2) (hlen : rs1.length + (j + 1) ≤ f)
    {ρ4 : List RA} {news4 : Led} {h4 : Heap} {tk4 : Nat} (D4 : Dy NM h₀ L ρ4 σ4 m news4 h4) (hl : LocR NM env L ρ4 news4 l1 m) (S : CmS env ρ₀ news₀ src I Da ρ4 news4 k1 rs1) {E : Value → Shared → Prop} :
    wpAny (model prog w) A (eval elt env) (fun x s₄ => wpAny (model prog w) A (call (.builtin "list.append") [.ref Da, x]) (fun _ s₅ => ∃ m', m' < j + 1 ∧ InvC NM env h₀ L c cf n src lf cm rs σ' f m ρ₀ news₀ I Da s m' s₅) E s₄) E { heap := h4, gens := s.gens, drawn := s.drawn, toks := tk4, os := s.os } :=
  bdE he fun q g5 he => mpE he fun z g6 he => HE hE g5 (s := ⟨h4, s.gens, s.drawn, tk4, s.os⟩) D4 hl fun ρ5 news5 h5 tk5 y D5 L5 hr => by
    obtain ⟨le, so, ⟨oI, x1, x3⟩, x2, ⟨ys, nD, y1, y3⟩, y2, ⟨oC, z1, z2, z3⟩⟩ := S.mono L5
    refine append_K (s := ⟨h5, s.gens, s.drawn, tk5, s.os⟩) D5.F D5.N (upd_Upd y1 D5.nd) (fun h6 F6 N6 => ?_) (by rw [List.size_toArray, y3.length]; exact Nat.le_trans (show rs1.length ≤ 1000 by omega) (by decide))
    rw [show ys.toArray.push y = (ys ++ [y]).toArray from List.push_toArray _ _] at N6
    have hz : q.1 :: z.1 = rs2 := congrArg Prod.fst he
    have hs : z.2 = σ' := congrArg Prod.snd he
    exact ⟨j, Nat.lt_succ_self j, .mk (D5.offSet y2 F6 N6) ⟨le.offUpd ap.d, so, ⟨oI, upd_other x1 (Ne.symm ap.di), x3⟩, x2, ⟨_, _, upd_self y1, y3.app (.cons hr .nil)⟩, y2, ⟨oC, upd_other z1 (Ne.symm ap.dc), z2, z3⟩⟩ (g6.trans (by rw [← hs])) (by rw [hrs, ← hz, List.append_assoc]; rfl) (by rw [List.length_append]; show rs1.length + 1 + j ≤ f; omega)⟩
theorem compLoop_ok (G : CfgOK K NM c) (C : Cx prog w K NM env L h₀ A d) (HC : CallsOK prog w K NM d cf) {elt target iter : PySem.Expr} {ifs : List PySem.Expr} {scope : PySem.Scope} {pos : Pos}
    (hE : chkE K NM env.scope.names 60 cm.elt elt = true) (hT : tgtB NM env.scope.names cm.is target = true) (hF : ifsB K NM env.scope.names cm.cond ifs = true)
    {σ : H} (he : cmpL c cf n src lf cm f 0 σ = some (rs, σ')) (hf : f ≤ 1000) {ρ : List RA} {news : Led} (D : Dy NM h₀ L ρ σ m news s.heap) (HF : LocR NM env L ρ₀ news₀ lf m) (ap : Apart env news₀ I Da) (S : CmS env ρ₀ news₀ src I Da ρ news 0 []) {R : Result → Shared → Prop}
    (hR : ∀ ρ' news' h' tk ys nD' oC', Dy NM h₀ L ρ' σ' m news' h' → Le ρ₀ ρ' news₀ news' → (Da, listOf (ys : List Value).toArray nD') ∈ news' → Da ∉ adrs ρ' → VsR ρ' rs ys → Own env ρ' news' oC' → R (.ok .next) { heap := h', gens := s.gens, drawn := s.drawn, toks := tk, os := s.os }) :
    codeAny (model prog w) A (.compLoop (.ListComp elt [⟨target, iter, ifs, 0⟩] scope pos) 0 (.ref I) (.ref Da) env) R s := by
  obtain ⟨HE, HT⟩ := ev_ok G C HC n
  refine compLoop_own (InvC NM env h₀ L c cf n src lf cm rs σ' f m ρ₀ news₀ I Da s) (fun j s' IV => ?_) f (.mk D S he rfl (Nat.le_of_eq (Nat.zero_add f)))
  cases IV with
  | @mk k1 ρ1 news1 σ1 h1 tk rs1 rs2 D1 S1 he1 hrs hlen =>
  cases j with
  | zero => cases he1
  | succ j =>
  refine bdE he1 fun ov hs he1 => ?_
  obtain ⟨oI, a1, a3⟩ := S1.it
  refine next_ok (s := ⟨h1, s.gens, s.drawn, tk, s.os⟩) D1 C.hh a1 S1.io a3 S1.so hs (fun hv h2 D2 => ?_) fun v hv u o2 h2 tk2 hvr it2 g2 D2 => ?_
  · rw [hv] at he1
    have he1 : (([] : List V), σ1) = (rs2, σ') := Option.some.inj he1
    cases he1
    rw [List.append_nil] at hrs
    subst hrs
    obtain ⟨ys, nD, d1, d2⟩ := S1.acc
    obtain ⟨oC, O⟩ := S1.own
    exact hR _ _ _ _ _ _ _ D2 (S1.le.offDrop ap.i) (dropA_mem.mpr ⟨d1, ap.di⟩) S1.ao d2 ⟨dropA_mem.mpr ⟨O.led, Ne.symm ap.ic⟩, O.off, O.ns⟩
  · rw [hv] at he1
    refine bdE (show cmT c cf n lf cm (cmpL c cf n src lf cm j (k1 + 1)) σ1 v = some (rs2, σ') from he1) fun l1 hl1 he1 => bdE he1 fun p hp he1 => ?_
    have S2 : CmS env ρ₀ news₀ src I Da ρ1 (upd I o2 news1) (k1 + 1) rs1 := by
      obtain ⟨ys, nD, d1, d2⟩ := S1.acc
      obtain ⟨oC, O⟩ := S1.own
      exact ⟨S1.le.offUpd ap.i, S1.so, ⟨o2, upd_self a1, it2⟩, S1.io, ⟨ys, nD, upd_other d1 ap.di, d2⟩, S1.ao, ⟨oC, upd_other O.led (Ne.symm ap.ic), O.off, O.ns⟩⟩
    obtain ⟨oC, O⟩ := S2.own
    refine ownedC (s := ⟨h2, s.gens, s.drawn, tk2, s.os⟩) g2 it2 u (tgtC_ok C G.W.nm hT (s := ⟨h2, s.gens, s.drawn, tk2, s.os⟩) hvr D2 (S2.le.loc HF) O hl1 fun oC3 h3 tk3 D3 O3 hl3 => ?_)
    have S3 := S2.upd ap O3
    revert hp hF
    unfold ifsB cmC
    cases cm.cond with
    | none =>
      intro hF hp
      rw [List.isEmpty_iff.mp hF]
      have hp : (true, σ1) = p := Option.some.inj hp
      subst hp
      exact wpAny_tests_nil (ifT rfl (comp_add HE hf ap hE he1 hrs hlen D3 hl3 S3))
    | some t =>
      refine fun hF hp => osE hF fun e he hF => ?_
      rw [show ifs = _ from he]
      exact wpAny_tests_one (HT hF hp (s := ⟨h3, s.gens, s.drawn, tk3, s.os⟩) D3 hl3 fun ρ4 news4 h4 tk4 D4 L4 => cdE he1
        (fun hv he1 => ifT hv (comp_add HE hf ap hE he1 hrs hlen D4 (L4.loc hl3) (S3.mono L4)))
        fun hv he1 => ifF hv ⟨j, Nat.lt_succ_self j, .mk D4 (S3.mono L4) he1 hrs (by omega)⟩)
end st
theorem off_one {ρ : List RA} {a b : Addr} (h : b ∉ adrs ρ) (hne : a ≠ b) : b ∉ adrs (ρ ++ [(a, none)]) := fun q => by
  rw [adrs_app] at q
  rcases List.mem_append.mp q with q | q
  · exact h q
  · exact hne (List.mem_singleton.mp (show b ∈ [a] from q)).symm
theorem Dy.adopt {NM : List Str} {h₀ : Heap} {L : Addr} {ρ : List RA} {σ : H} {m : Str → Option Value} {news : Led} {h : Heap} (D : Dy NM h₀ L ρ σ m news h) {a : Addr} {x : O} (ho : a ∉ adrs ρ) (R : ObjR NM news (ρ ++ [(a, none)]) (a, none) x) : Dy NM h₀ L (ρ ++ [(a, none)]) (σ ++ [x]) m news h := by
  refine ⟨D.F, D.N, D.nd, ⟨by rw [List.length_append, List.length_append, D.P.len]; rfl, fun i y hy => ?_, ?_⟩⟩
  · rcases at_app_cases hy with hy | ⟨rfl, rfl⟩
    · obtain ⟨p, hp, q⟩ := D.P.obj i y hy
      exact ⟨p, at_app hp, q.mono _ fun q hq _ => hq⟩
    · exact ⟨_, D.last _, R⟩
  · rw [adrs_app]
    exact List.nodup_append.mpr ⟨D.P.nd, List.nodup_cons.mpr ⟨List.not_mem_nil, List.nodup_nil⟩, fun x ha b hb e => ho (by rw [← List.mem_singleton.mp (show b ∈ [a] from hb), ← e]; exact ha)⟩
theorem Le.adopt {ρ ρ' : List RA} {news news' : Led} (X : Le ρ ρ' news news') {a : Addr} (hn : a ∉ news.map (·.1)) : Le ρ (ρ' ++ [(a, none)]) news news' := by
  obtain ⟨⟨τ, rfl⟩, k⟩ := X
  refine ⟨⟨τ ++ [(a, none)], by rw [List.append_assoc]⟩, fun p hp hz => ?_⟩
  obtain ⟨k1, k2⟩ := k p hp hz
  exact ⟨k1, off_one k2 fun e => hn (e ▸ List.mem_map_of_mem (f := (·.1)) hp)⟩
noncomputable def PostI (NM : List Str) (h₀ : Heap) (L : Addr) (m : Str → Option Value) (ρ : List RA) (news : Led) (c : Cfg) (cf : CF) (n : Nat) (lf : Loc) (cm : CM) (f : Nat) (y : List V × H) (Q : Value → Shared → Prop) (s : Shared) : Prop :=
  ∀ I oI src ρ1 news1 σ1 h1 tk, cmpL c cf n src lf cm f 0 σ1 = some y → Dy NM h₀ L ρ1 σ1 m news1 h1 → Le ρ ρ1 news news1 → SrcOK ρ1 src → (I, oI) ∈ news1 → I ∉ adrs ρ1 → ItO src oI 0 → I ∉ news.map (·.1) → (∀ a ∈ news.map (·.1), a < h1.objs.size) → Q (.ref I) { heap := h1, gens := s.gens, drawn := s.drawn, toks := tk, os := s.os }
noncomputable def Hit (prog : Program) (w : World) (NM : List Str) (c : Cfg) (env : Env) (L : Addr) (h₀ : Heap) (A : Around) (cf : CF) (n : Nat) (lf : Loc) (cm : CM) (f : Nat) (iter : PySem.Expr) (y : List V × H) (s : Shared) (ρ : List RA) (news : Led) (m : Str → Option Value) : Prop :=
  ∀ {Q : Value → Shared → Prop} {E : Value → Shared → Prop}, PostI NM h₀ L m ρ news c cf n lf cm f y Q s → wpAny (model prog w) A (eval iter env) (fun x s₁ => wpAny (model prog w) A (pyIter x) Q E s₁) E s
inductive ITm where
  | rng (e : ME)
  | lst (e : ME)
noncomputable def iterB (K : Frag) (NM : List Str) (ns : Nms) (it : ITm) (ie : PySem.Expr) : Bool := match it with
  | .rng me => ob (vw ie).call fun p => ob (vw p.1.1).name fun z => ob (arg1 p.1.2.1) fun ae => rngN K ns (z.1.1 == ("range" : Str)) && (chkE K NM ns 60 me ae.1 && plainE ae.1)
  | .lst me => chkE K NM ns 60 me ie && plainE ie
noncomputable def cmpE (c : Cfg) (cf : CF) (n : Nat) (l lf : Loc) (it : ITm) (cm : CM) (f : Nat) (σ : H) : RL := match it with
  | .rng e => (evE c cf n l e σ).bind fun p => (intV p.1).bind fun m => gd (decide (0 ≤ m.1 ∧ m.1 < 1000)) (cmpL c cf n (.rng m.1.toNat) lf cm f 0 p.2)
  | .lst e => (evE c cf n l e σ).bind fun p => (refV p.1).bind fun j => (listAt p.2 j.1).bind fun _ => cmpL c cf n (.lst j.1 0) lf cm f 0 p.2
theorem cmpL_la {c : Cfg} {cf : CF} {n : Nat} {lf : Loc} {cm : CM} {j : Nat} {a b : Addr} (f : Nat) : ∀ k, cmpL c cf n (.lst j a) lf cm f k = cmpL c cf n (.lst j b) lf cm f k := by
  induction f with
  | zero => exact fun _ => rfl
  | succ f ih =>
    intro k
    show (fun σ => (srcAt (.lst j b) k σ).bind fun o => o.elim (some ([], σ)) (cmT c cf n lf cm (cmpL c cf n (.lst j a) lf cm f (k + 1)) σ)) = _
    rw [ih]; rfl
section st
variable {prog : Program} {w : World} {K : Frag} {NM : List Str} {c : Cfg} {env : Env} {L : Addr} {h₀ : Heap} {A : Around} {d : Nat} {cf : CF} {n : Nat} {lf : Loc} {cm : CM} {f : Nat} {y : List V × H} {m : Str → Option Value} {σ : H} {s : Shared} {ρ : List RA} {news : Led}
theorem hit_list {ρ1 : List RA} {news1 : Led} {σ1 : H} {h1 : Heap} {tk : Nat} {j : Nat} {la : Addr} {us : Array Value} (D : Dy NM h₀ L ρ1 σ1 m news1 h1) (X : Le ρ ρ1 news news1) (r : VR ρ1 (.ref j) (.ref la)) (il : h1.IsList la us) (he : cmpL c cf n (.lst j 0) lf cm f 0 σ1 = some y) {Q : Value → Shared → Prop} {E : Value → Shared → Prop} (q : PostI NM h₀ L m ρ news c cf n lf cm f y Q s) :
    wpAny (model prog w) A (pyIter (.ref la)) Q E { heap := h1, gens := s.gens, drawn := s.drawn, toks := tk, os := s.os } := by
  refine wpAny_pyIter_list (s := ⟨h1, s.gens, s.drawn, tk, s.os⟩) il ?_
  have D3 := D.extra { cls := .type "list_iterator", data := .fields #[.ref la, .int 0 0] } rfl
  exact q _ _ (.lst j la) _ _ _ _ _ (by rw [cmpL_la (b := 0)]; exact he) D3.1 (X.trans D3.2.2.2) r (.head _) D3.2.1 ⟨rfl, rfl⟩ (fun z => D3.2.2.1 (X.dom D.P z)) fun a ha => lt_of_news D3.1.N ((X.trans D3.2.2.2).dom D3.1.P ha)
theorem iter_ok (G : CfgOK K NM c) (C : Cx prog w K NM env L h₀ A d) (HC : CallsOK prog w K NM d cf) {it : ITm} {iter : PySem.Expr} (hb : iterB K NM env.scope.names it iter = true) {l : Loc} (he : cmpE c cf n l lf it cm f σ = some y) (D : Dy NM h₀ L ρ σ m news s.heap) (hl : LocR NM env L ρ news l m) : Hit prog w NM c env L h₀ A cf n lf cm f iter y s ρ news m := by
  intro Q E q
  obtain ⟨HE, _⟩ := ev_ok G C HC n
  cases it with
  | rng me =>
    exact osE hb fun p hp hb => osE hb fun z hz hb => osE hb fun ae ha hb => anE hb fun b1 hb => anE hb fun b5 b6 => bdE he fun v g2 he => bsE he fun mi hi he => gdE he fun hm he => by
      obtain ⟨c1, b3, b4⟩ := rngN_of b1
      obtain ⟨r1, r2⟩ : 0 ≤ mi ∧ mi < 1000 := of_decide_eq_true hm
      rw [hp, show p.1 = _ from hz, show z.1 = _ from c1, show p.2.1 = _ from ha]
      refine Call_ (bname_ok C D.F b4 boot_range (by decide) ?_ b3 (by decide))
      refine callWith_type1 (spliced_more (HE b5 g2 D hl fun ρ1 news1 h1 tk1 y1 D1 L1 hy => spliced_none ?_) (star_cons b6)) (star_cons b6)
      obtain ⟨tki, e1⟩ := int_of hy hi
      rw [e1]
      refine call_range_1 (wpAny_pyIter_range (Heap.get?_push_size _ rfl) (small_nat r1 r2) ?_)
      have D2 := D1.push { cls := .type "range", data := .fields #[.int 0 tk1, .int mi tki, .int 1 (tk1 + 1)] }
      rw [rangeSize_nat r1]
      have D3 := D2.extra (rngO 0 ((mi.toNat : Nat) : Int)) rfl
      exact q _ _ (.rng mi.toNat) _ _ _ _ _ he D3.1 (L1.trans D3.2.2.2) trivial (.head _) D3.2.1 ⟨Nat.zero_le _, congrArg (rngO 0) (Int.sub_zero _).symm⟩ (fun z => D3.2.2.1 (L1.dom D2.P z)) fun a ha => lt_of_news D3.1.N ((L1.trans D3.2.2.2).dom D3.1.P ha)
  | lst me =>
    exact anE hb fun b1 _ => bdE he fun v g1 he => bsE he fun jj hj he => bdE he fun xs hxs he => HE b1 g1 D hl fun ρ1 news1 h1 tk1 y1 D1 L1 r1 => D1.isList (listAt_ok hxs) r1 hj fun la us n1 e1 p1 m1 rr il => by
      rw [e1]
      rw [hj, e1] at r1
      exact hit_list D1 L1 r1 il he q
theorem compCore (G : CfgOK K NM c) (C : Cx prog w K NM env L h₀ A d) (HC : CallsOK prog w K NM d cf) {elt target iter : PySem.Expr} {ifs : List PySem.Expr} {scope : PySem.Scope} {cl : List (Str × Addr)} {pos : Pos}
    (hcell : ∀ y ∈ scope.names, y.2 ≠ .cell) (hkind : scope.kind = .function)
    (hE : chkE K NM (relabel scope env).names 60 cm.elt elt = true) (hT : tgtB NM (relabel scope env).names cm.is target = true) (hF : ifsB K NM (relabel scope env).names cm.cond ifs = true)
    {src : Src} {σ' : H} {rs : List V} (he : cmpL c cf n src lf cm f 0 σ = some (rs, σ')) (hf : f ≤ 1000) {ρ₀ : List RA} {news₀ : Led} (D : Dy NM h₀ L ρ σ m news s.heap) (L0 : Le ρ₀ ρ news₀ news)
    (HF : ∀ Ca, LocR NM (compEnvC scope cl Ca env) L ρ₀ news₀ lf m) {I : Addr} {oI : Obj} (so : SrcOK ρ src) (i1 : (I, oI) ∈ news) (i2 : I ∉ adrs ρ) (i3 : ItO src oI 0) (i4 : I ∉ news₀.map (·.1)) (low : ∀ a ∈ news₀.map (·.1), a < s.heap.objs.size)
    {RR : Value → Addr → Result → Shared → Prop} {E : Value → Shared → Prop}
    (hRR : ∀ Da Ca ρ' news' h' tk ys nD oC, Dy NM h₀ L ρ' σ' m news' h' → Le ρ₀ ρ' news₀ news' → (Da, listOf (ys : List Value).toArray nD) ∈ news' → Da ∉ adrs ρ' → VsR ρ' rs ys → Own (compEnvC scope cl Ca env) ρ' news' oC → Da ≠ Ca → Da ∉ news₀.map (·.1) → Ca ∉ news₀.map (·.1) → RR (.ref Da) Ca (.ok .next) { heap := h', gens := s.gens, drawn := s.drawn, toks := tk, os := s.os }) :
    wpAny (model prog w) A (newList []) (fun acc s₃ => wpAny (model prog w) A (newFunctionEnv scope env.globals cl [] env.qual none .none (some env)) (fun cenv s₄ =>
      codeAny (model prog w) A (.compStart (.ListComp elt [⟨target, iter, ifs, 0⟩] scope pos) 0 (.ref I) acc { cenv with scope := relabel scope env }) (RR acc cenv.locals) s₄) E s₃) E s := by
  refine wpAny_newObj_type (wpAny_newFunctionEnv hcell (by intro y hy; cases hy) (fun h₁ hns₁ hsb₁ => ?_) hkind)
  dsimp only at hns₁ hsb₁ ⊢
  have X1 := D.extra { cls := .type "list", dict := none, data := .seq ([] : List Value).toArray } rfl
  obtain ⟨D1, n1, n2, K1⟩ := X1
  generalize hH2 : s.heap.push { cls := .type "list", dict := none, data := .seq ([] : List Value).toArray } = H2 at hns₁ hsb₁ D1 ⊢
  have hsz : H2.objs.size = s.heap.objs.size + 1 := by rw [← hH2, Heap.size_push]
  obtain ⟨D2, n3, n4, K2⟩ := D1.extra { cls := .type (if (some env).isSome then "dict" else "frame"), data := .dict #[] } rfl
  obtain ⟨oC, es, ep, g1, g2, g3, g4⟩ := id hns₁
  have D3 := D2.offUpd (.head _) n3 hsb₁ g1
  have hDf : s.heap.objs.size ∉ news₀.map (·.1) := fun q => absurd (low _ q) (Nat.lt_irrefl _)
  have hCf : H2.objs.size ∉ news₀.map (·.1) := fun q => by have := low _ q; omega
  have L3 := ((L0.trans K1).trans K2).offUpd (o := oC) hCf
  have hIlt : I < s.heap.objs.size := Heap.lt_size (D.N _ i1).1
  have nDC : s.heap.objs.size ≠ H2.objs.size := by omega
  have nIC : I ≠ H2.objs.size := by rw [hsz]; exact Nat.ne_of_lt (Nat.lt_succ_of_lt hIlt)
  have hIn := upd_other (o := oC) (K2.keep _ (K1.keep _ i1 i2).1 i2).1 nIC
  have C' : Cx prog w K NM (compEnvC scope cl H2.objs.size env) L h₀ A d := ⟨C.X, C.Tp, C.B, C.gl, C.bt, C.hh, hkind, C.dep, C.un, C.gd⟩
  have loop : codeAny (model prog w) A (.compLoop (.ListComp elt [⟨target, iter, ifs, 0⟩] scope pos) 0 (.ref I) (.ref s.heap.objs.size) (compEnvC scope cl H2.objs.size env)) (RR (.ref s.heap.objs.size) H2.objs.size) { s with heap := h₁, toks := s.toks + ([] : List (Str × Value)).length } :=
    compLoop_ok G C' HC (s := { s with heap := h₁, toks := s.toks + ([] : List (Str × Value)).length }) hE hT hF he hf D3 (HF _) ⟨i4, hDf, hCf, Nat.ne_of_gt hIlt, nDC, nIC⟩
      ⟨L3, so, ⟨oI, hIn, i3⟩, i2, ⟨[], 0, upd_other (.tail _ (.head _)) nDC, .nil⟩, n1, ⟨oC, upd_self (.head _), n3, _, es, ep, g2, g3, g4⟩⟩ fun ρ' news' h' tk ys nD' oC' D' L' x1 x2 x3 x4 => hRR _ _ _ _ _ _ _ _ _ D' L' x1 x2 x3 x4 nDC hDf hCf
  have hgI : h₁.get? I = some oI := (D3.N _ hIn).1
  refine codeAny_compStart_list loop ?_
  cases src with
  | rng n =>
    obtain ⟨_, rfl⟩ := i3
    exact wpAny_pyIter_rangeiter hgI loop
  | lst j la => exact wpAny_pyIter_listiter ⟨oI, hgI, i3.1, i3.2⟩ loop
end st
noncomputable def rl (ns names : Nms) : Nms := names.map fun (n, k) => if (k == .free && ns.lookup n == some .cell) then (n, .cell) else (n, k)
noncomputable def scOf (e : PySem.Expr) : PySem.Scope := (vw e).comp.elim ⟨.function, [], false, false, []⟩ fun p => p.1.2.2.1
noncomputable def itOf (e : PySem.Expr) : PySem.Expr := (vw e).comp.elim e fun p => p.1.2.1.head?.elim e (·.iter)
noncomputable def chkD (K : Frag) (NM : List Str) (ns : Nms) (cm : CM) (e : PySem.Expr) : Bool := ob (vw e).comp fun p => ob (arg1 p.1.2.1) fun g => (g.1.is_async == 0) && (decide (p.1.2.2.1.kind = .function) && ((p.1.2.2.1.names.all fun y => decide (y.2 ≠ .cell)) && ((p.1.2.2.1.names.all fun y => !(y.2 == .local) || (p.1.2.2.1.names.lookup y.1 == some .local)) && (plainE g.1.iter &&
  (chkE K NM (rl ns p.1.2.2.1.names) 60 cm.elt p.1.1 && (tgtB NM (rl ns p.1.2.2.1.names) cm.is g.1.target && ifsB K NM (rl ns p.1.2.2.1.names) cm.cond g.1.ifs))))))
structure CkD (K : Frag) (NM : List Str) (ns : Nms) (cm : CM) (elt target iter : PySem.Expr) (ifs : List PySem.Expr) (scope : PySem.Scope) : Prop where
  ki : scope.kind = .function
  ce : ∀ y ∈ scope.names, y.2 ≠ .cell
  lo : ∀ y ∈ scope.names, y.2 = .local → scope.names.lookup y.1 = some .local
  it : plainE iter = true
  el : chkE K NM (rl ns scope.names) 60 cm.elt elt = true
  tg : tgtB NM (rl ns scope.names) cm.is target = true
  co : ifsB K NM (rl ns scope.names) cm.cond ifs = true
theorem gen_of {g : PySem.Comprehension} (h : g.is_async = 0) : g = ⟨g.target, g.iter, g.ifs, 0⟩ := by cases g; cases h; rfl
theorem chkD_of {K : Frag} {NM : List Str} {ns : Nms} {cm : CM} {e : PySem.Expr} (h : chkD K NM ns cm e = true) {P : Prop} (k : ∀ elt target iter ifs scope pos, e = .ListComp elt [⟨target, iter, ifs, 0⟩] scope pos → CkD K NM ns cm elt target iter ifs scope → P) : P :=
  osE h fun p hp h => osE h fun g hg h => anE h fun h1 h => anE h fun h2 h => anE h fun h3 h => anE h fun h4 h => anE h fun h5 h => anE h fun h6 h => anE h fun h7 h8 =>
    k p.1 g.target g.iter g.ifs p.2.2.1 p.2.2.2 (by rw [hp, show p.2.1 = _ from hg]; exact congrArg (fun g' => PySem.Expr.ListComp p.1 [g'] p.2.2.1 p.2.2.2) (gen_of (eq_ok h1))) ⟨of_decide_eq_true h2, fun y hy => of_decide_eq_true (all_ok h3 y hy), fun y hy hl => orE (all_ok h4 y hy) (fun h => by rw [hl] at h; cases h) fun h => eq_ok h, h5, h6, h7, h8⟩
theorem rl_ok {scope : PySem.Scope} {env : Env} (hk : env.scope.kind = .function) : (relabel scope env).names = rl env.scope.names scope.names := by
  unfold relabel rl
  refine List.map_congr_left fun p _ => ?_
  obtain ⟨n, k⟩ := p
  show (if (k == .free && env.scope.kind == .function && env.kindOf n == some .cell) = true then _ else _) = _
  rw [hk, show (ScopeKind.function == ScopeKind.function) = true from rfl, Bool.and_true]
  rfl
section st
variable {prog : Program} {w : World} {K : Frag} {NM : List Str} {c : Cfg} {env : Env} {L : Addr} {h₀ : Heap} {A : Around} {d : Nat} {cf : CF} {n : Nat} {cm : CM} {lf : Loc} {f : Nat} {σ σ' : H} {rs : List V} {s : Shared} {ρ : List RA} {news : Led} {m : Str → Option Value} {cl : List (Str × Addr)} {e : PySem.Expr}
theorem compGen (G : CfgOK K NM c) (C : Cx prog w K NM env L h₀ A d) (HC : CallsOK prog w K NM d cf) {elt target iter : PySem.Expr} {ifs : List PySem.Expr} {scope : PySem.Scope} {pos p' : Pos} (B : CkD K NM env.scope.names cm elt target iter ifs scope) (hclos : closureFor scope env = pure cl) (hf : f ≤ 1000) (hit : Hit prog w NM c env L h₀ A cf n lf cm f iter (rs, σ') s ρ news m)
    (HF : ∀ Ca, LocR NM (compEnvC scope cl Ca env) L ρ news lf m) {use : Option (Value → Sem Unit)} {Q : Value → Shared → Prop} {E : Value → Shared → Prop}
    (q : ∀ Da Ca ρ' news' h' tk oC, Dy NM h₀ L (ρ' ++ [(Da, none)]) (σ' ++ [.list rs]) m news' h' → Le ρ (ρ' ++ [(Da, none)]) news news' → Own (compEnvC scope cl Ca env) (ρ' ++ [(Da, none)]) news' oC → Ca ∉ news.map (·.1) → VR (ρ' ++ [(Da, none)]) (.ref σ'.length) (.ref Da) →
      compPost (model prog w) A E use Q (.ref Da) Ca (.ok .next) { heap := h', gens := s.gens, drawn := s.drawn, toks := tk, os := s.os }) :
    wpAny (model prog w) A (comprehension (.ListComp elt [⟨target, iter, ifs, 0⟩] scope pos) scope env p' (newList []) false (eval iter env) use) Q E s := by
  refine wpAny_comprehension_free rfl (fun x => (plainE_ok B.it).set _ _) hclos B.ki B.lo ?_
  refine hit fun I oI src ρ1 news1 σ1 h1 tk e1 D1 L1 so x1 x2 x3 x4 x5 => ?_
  exact compCore G C HC (s := ⟨h1, s.gens, s.drawn, tk, s.os⟩) B.ce B.ki (by rw [rl_ok C.kf]; exact B.el) (by rw [rl_ok C.kf]; exact B.tg) (by rw [rl_ok C.kf]; exact B.co) e1 hf D1 L1 HF so x1 x2 x3 x4 x5 (RR := fun acc Ca => compPost (model prog w) A E use Q acc Ca) fun Da Ca ρ' news' h' tk' ys nD oC D' L' y1 y2 y3 O y7 y8 y9 =>
    q Da Ca ρ' news' h' tk' oC (D'.adopt y2 ⟨ys, nD, rfl, y1, y3.mono _⟩) (L'.adopt y8) ⟨O.led, off_one O.off y7, O.ns⟩ y9 (.ref (p := (Da, none)) (D'.last _))
theorem comp_ok (G : CfgOK K NM c) (C : Cx prog w K NM env L h₀ A d) (HC : CallsOK prog w K NM d cf) (hb : chkD K NM env.scope.names cm e = true) (hclos : closureFor (scOf e) env = pure cl) (hf : f ≤ 1000) (hit : Hit prog w NM c env L h₀ A cf n lf cm f (itOf e) (rs, σ') s ρ news m)
    (HF : ∀ Ca, LocR NM (compEnvC (scOf e) cl Ca env) L ρ news lf m) {Q : Value → Shared → Prop} {E : Value → Shared → Prop} (q : Post NM h₀ L m ρ news (σ' ++ [.list rs]) (.ref σ'.length) Q s) : wpAny (model prog w) A (eval e env) Q E s :=
  chkD_of hb fun elt target iter ifs scope pos he B => by
    subst he
    rw [eval_ListComp]
    refine compGen G C HC B hclos hf hit HF (use := none) fun Da Ca ρ' news' h' tk oC D' L' O x4 x5 => ?_
    obtain ⟨mC, es, ep, g1, g2, g3⟩ := O.ns
    exact ⟨mC, ⟨oC, es, ep, (D'.N _ O.led).1, g1, g2, g3⟩, fun h'' hs => q _ _ _ tk _ (D'.offDrop O.led O.off hs.extBut) (L'.offDrop x4) x5⟩
theorem compAsg_ok (G : CfgOK K NM c) (C : Cx prog w K NM env L h₀ A d) (SL : env.locals = L) (HC : CallsOK prog w K NM d cf) {i : Nat} {y : Str} {py sp : Pos} (hb : chkD K NM env.scope.names cm e = true) (hclos : closureFor (scOf e) env = pure cl) (hy : locB NM env.scope.names i y = true) (hsw : swapsWith e (some (.Name y py)) sp.line env = pure true)
    {l : Loc} (hf : f ≤ 1000) (hit : Hit prog w NM c env L h₀ A cf n lf cm f (itOf e) (rs, σ') s ρ news m) (hl : LocR NM env L ρ news l m)
    (HF : ∀ Ca, LocR NM (compEnvC (scOf e) cl Ca env) L ρ news lf m) {Q : Flow → Shared → Prop} {E : Value → Shared → Prop} (q : PostF NM env h₀ L ρ news (σ' ++ [.list rs]) ((i, .ref σ'.length) :: l) .next Q s) :
    wpAny (model prog w) A (exec (.Assign [.Name y py] e sp) env) Q E s :=
  chkD_of hb fun elt target iter ifs scope pos he B => by
    subst he
    rw [exec_Assign_Name_used _ _ _ _ hsw]
    refine wpAny_bind (wpAny_standAt (wpAny_bind ?_))
    show wpAny _ A (do let _ ← comprehension (.ListComp elt [⟨target, iter, ifs, 0⟩] scope pos) scope env _ (newList []) false (eval iter env) (some (assign (.Name y py) env))) _ _ s
    refine wpAny_bind (wpAny_mono (compGen (Q := fun _ s' => Q .next s') G C HC B hclos hf hit HF (use := some (assign (.Name y py) env)) fun Da Ca ρ' news' h' tk oC D' L' O x4 x5 => ?_) (fun _ s' hq => wpAny_pure (wpAny_pure hq)) fun _ _ e => e)
    show wpAny _ A (assign (.Name y py) env (.ref Da)) _ _ _
    refine PyProof.Rows.assign_Name (store_ok C SL G.W.nm hy (s := ⟨h', s.gens, s.drawn, tk, s.os⟩) D' (L'.loc hl) x5 fun m2 h2 tk2 D2 hl2 => ?_)
    obtain ⟨mC, es, ep, g1, g2, g3⟩ := O.ns
    refine ⟨mC, ⟨oC, es, ep, (D2.N _ O.led).1, g1, g2, g3⟩, fun h'' hs => q _ _ _ tk2 _ _ (D2.offDrop O.led O.off hs.extBut) (L'.offDrop x4) (fun j v ej x hx => ?_) .next⟩
    have hCL : env.locals ≠ Ca := by rw [SL]; exact fun e => (D2.N _ O.led).2.1 e.symm
    obtain ⟨u, h, hv⟩ := hl2 j v ej x hx
    refine ⟨u, ?_, hv⟩
    rcases h with h | ⟨a1, b, o, a2, a3, a4, a5⟩ | ⟨a1, o, m₂, a2, a3, a4, a5⟩
    · exact .inl h
    · refine .inr (.inl ⟨a1, b, o, a2, dropA_mem.mpr ⟨a3, fun e => ?_⟩, a4, a5⟩)
      have e : b = Ca := e
      rw [e] at a3
      rw [led_uniq D2.nd a3 O.led, g1] at a5
      cases a5
    · exact .inr (.inr ⟨a1, o, m₂, dropA_mem.mpr ⟨a2, hCL⟩, a3, a4, a5⟩)
theorem cell_ok (C : Cx prog w K NM env L h₀ A d) {x : Str} {cx : Addr} (hk : env.scope.names.lookup x = some .cell) (hx : env.cells.lookup x = some cx) (D : Dy NM h₀ L ρ σ m news s.heap) {o : Obj} {v₀ : Option Value} (hm : (cx, o) ∈ news) (ho : cx ∉ adrs ρ) (hd : o.data = .cell v₀) {u : Value}
    {Q : Unit → Shared → Prop} {E : Value → Shared → Prop} (q : ∀ o' h', Dy NM h₀ L ρ σ m (upd cx o' news) h' → o'.data = .cell (some u) → Q () { s with heap := h' }) : wpAny (model prog w) A (storeName env x u) Q E s := by
  refine wpAny_storeName_cell C.kf hk hx ⟨o, (D.N _ hm).1, hd⟩ fun h' hv hs => ?_
  obtain ⟨o', ho', hd'⟩ := hv
  exact q o' h' (D.offUpd hm ho hs ho') hd'
theorem LocR.putCell {l : Loc} (nm : nmOk NM) (hl : LocR NM env L ρ news l m) (SL : env.locals = L) {h : Heap} (D : Dy NM h₀ L ρ σ m news h) {i : Nat} {x : Str} (hx : at? NM i = some x) {cx : Addr} (hk : env.scope.names.lookup x = some .cell) (hcx : env.cells.lookup x = some cx) (inj : ∀ y, y ≠ x → env.cells.lookup y ≠ some cx) {o o' : Obj} (hm : (cx, o) ∈ news) (ho : cx ∉ adrs ρ) {v : V} {u : Value} (hd : o'.data = .cell (some u)) (hv : VR ρ v u) :
    LocR NM env L ρ (upd cx o' news) ((i, v) :: l) m := hl.putX nm hx (.inr (.inl ⟨hk, cx, o', hcx, upd_self hm, ho, hd⟩)) (fun y u' hne h1 => by
    rcases h1 with h1 | ⟨a1, b, o2, a2, a3, a4, a5⟩ | ⟨a1, o2, m₂, a2, a3, a4, a5⟩
    · exact .inl h1
    · refine .inr (.inl ⟨a1, b, o2, a2, upd_other a3 fun e => ?_, a4, a5⟩)
      have e : b = cx := e
      exact inj y hne (e ▸ a2)
    · exact absurd SL fun e => (D.N _ a2).2.1 (by rw [← e])) hv
end st
noncomputable def CellAt (env : Env) (ρ : List RA) (news : Led) (x : Str) : Prop := ∃ c o v, env.cells.lookup x = some c ∧ (c, o) ∈ news ∧ c ∉ adrs ρ ∧ o.data = .cell v
theorem CellAt.le {env : Env} {ρ ρ' : List RA} {news news' : Led} {x : Str} (h : CellAt env ρ news x) (L : Le ρ ρ' news news') : CellAt env ρ' news' x := by
  obtain ⟨c, o, v, h1, h2, h3, h4⟩ := h
  obtain ⟨k1, k2⟩ := L.keep _ h2 h3
  exact ⟨c, o, v, h1, k1, k2, h4⟩
theorem CellAt.upd {env : Env} {ρ : List RA} {news : Led} {x : Str} (h : CellAt env ρ news x) {cx : Addr} {o' : Obj} {v' : Option Value} (hd : o'.data = .cell v') : CellAt env ρ (upd cx o' news) x := by
  obtain ⟨c, o, v, h1, h2, h3, h4⟩ := h
  by_cases e : c = cx
  · subst e
    exact ⟨c, o', v', h1, upd_self h2, h3, hd⟩
  · exact ⟨c, o, v, h1, upd_other h2 e, h3, h4⟩
structure LS (NM : List Str) (env : Env) (h₀ : Heap) (L : Addr) (cs : List Str) (s₀ : Shared) (l : Loc) (σ : H) (s : Shared) : Prop where
  ex : ∃ ρ news m, Dy NM h₀ L ρ σ m news s.heap ∧ LocR NM env L ρ news l m ∧ ∀ x ∈ cs, CellAt env ρ news x
  g : s.gens = s₀.gens
  d : s.drawn = s₀.drawn
  o : s.os = s₀.os
section st
variable {prog : Program} {w : World} {K : Frag} {NM : List Str} {c : Cfg} {env : Env} {L : Addr} {h₀ : Heap} {A : Around} {d : Nat} {cf : CF} {cs : List Str} {s₀ : Shared} {l l' : Loc} {σ σ' : H} {s : Shared}
noncomputable def Ev (prog : Program) (w : World) (NM : List Str) (env : Env) (L : Addr) (h₀ : Heap) (A : Around) (e : PySem.Expr) (l : Loc) (σ : H) (r : V) (σ' : H) : Prop :=
  ∀ {s : Shared} {ρ news m}, Dy NM h₀ L ρ σ m news s.heap → LocR NM env L ρ news l m → ∀ {Q : Value → Shared → Prop} {E}, Post NM h₀ L m ρ news σ' r Q s → wpAny (model prog w) A (eval e env) Q E s
theorem ev_of (G : CfgOK K NM c) (C : Cx prog w K NM env L h₀ A d) (HC : CallsOK prog w K NM d cf) {n k : Nat} {me : ME} {e : PySem.Expr} {r : V} (hb : chkE K NM env.scope.names k me e = true) (he : evE c cf n l me σ = some (r, σ')) : Ev prog w NM env L h₀ A e l σ r σ' :=
  fun D hl _ _ q => (ev_ok G C HC n).1 hb he D hl q
noncomputable def NextQ (NM : List Str) (env : Env) (h₀ : Heap) (L : Addr) (cs : List Str) (s₀ : Shared) (l : Loc) (σ : H) (Q : Flow → Shared → Prop) : Prop := ∀ s', LS NM env h₀ L cs s₀ l σ s' → Q .next s'
theorem LS.nextF {ρ : List RA} {news : Led} (S : LS NM env h₀ L cs s₀ l σ s) (hc : ∀ x ∈ cs, CellAt env ρ news x) {Q : Flow → Shared → Prop} (q : NextQ NM env h₀ L cs s₀ l' σ' Q) : PostF NM env h₀ L ρ news σ' l' .next Q s := fun ρ' news' h' tk m' pf D' L' hl' hf => by
  cases hf
  exact q _ ⟨⟨ρ', news', m', D', hl', fun x hx => (hc x hx).le L'⟩, S.g, S.d, S.o⟩
theorem stepS (G : CfgOK K NM c) (C : Cx prog w K NM env L h₀ A d) (SL : env.locals = L) (HC : CallsOK prog w K NM d cf) {n k : Nat} {ms : MS} {st : PySem.Stmt} (hb : chkS K NM env.scope.names k ms st = true) (he : exS c cf n l ms σ = some (.next, l', σ')) (S : LS NM env h₀ L cs s₀ l σ s)
    {Q : Flow → Shared → Prop} {E : Value → Shared → Prop} (q : NextQ NM env h₀ L cs s₀ l' σ' Q) : wpAny (model prog w) A (exec st env) Q E s := by
  obtain ⟨ρ, news, m, D, hl, hc⟩ := S.ex
  exact (st_ok G C SL HC n).1 hb he D hl (S.nextF hc q)
theorem stepRet (G : CfgOK K NM c) (C : Cx prog w K NM env L h₀ A d) (SL : env.locals = L) (HC : CallsOK prog w K NM d cf) {n k : Nat} {ms : MS} {st : PySem.Stmt} {b : Bool} (hb : chkS K NM env.scope.names k ms st = true) (he : exS c cf n l ms σ = some (.ret (.bool b), l', σ')) (S : LS NM env h₀ L cs s₀ l σ s)
    {Q : Flow → Shared → Prop} {E : Value → Shared → Prop} (q : ∀ s', s'.gens = s₀.gens → s'.drawn = s₀.drawn → s'.os = s₀.os → (∀ b o, h₀.get? b = some o → s'.heap.get? b = some o) → Q (.ret (.bool b)) s') : wpAny (model prog w) A (exec st env) Q E s := by
  obtain ⟨ρ, news, m, D, hl, hc⟩ := S.ex
  refine (st_ok G C SL HC n).1 hb he D hl fun ρ' news' h' tk m' pf D' L' hl' hf => ?_
  cases hf with
  | ret hv => cases hv; exact q _ S.g S.d S.o D'.F.keep
structure CellK (NM : List Str) (env : Env) (cs : List Str) (i : Nat) (y : Str) : Prop where
  nm : at? NM i = some y
  k : env.scope.names.lookup y = some .cell
  inj : ∀ z, z ≠ y → env.cells.lookup z = env.cells.lookup y → False
  mem : y ∈ cs
theorem CellK.store (T : CellK NM env cs i y) (C : Cx prog w K NM env L h₀ A d) (nm : nmOk NM) (SL : env.locals = L) {ρ : List RA} {news : Led} {m : Str → Option Value} (D : Dy NM h₀ L ρ σ m news s.heap) (hl : LocR NM env L ρ news l m) (hc : ∀ x ∈ cs, CellAt env ρ news x) {v : V} {u : Value} (hv : VR ρ v u)
    {Q : Unit → Shared → Prop} {E : Value → Shared → Prop} (q : ∀ cx o' h', Dy NM h₀ L ρ σ m (upd cx o' news) h' → LocR NM env L ρ (upd cx o' news) ((i, v) :: l) m → (∀ x ∈ cs, CellAt env ρ (upd cx o' news) x) → Q () { s with heap := h' }) : wpAny (model prog w) A (storeName env y u) Q E s := by
  obtain ⟨cx, o, v0, e1, e2, e3, e4⟩ := hc y T.mem
  exact cell_ok C T.k e1 D e2 e3 e4 fun o' h' D2 hd => q cx o' h' D2 (hl.putCell nm SL D T.nm T.k e1 (fun z hz ez => T.inj z hz (ez.trans e1.symm)) e2 e3 hd hv) fun x hx => (hc x hx).upd hd
theorem stepCell (G : CfgOK K NM c) (C : Cx prog w K NM env L h₀ A d) (SL : env.locals = L) {e : PySem.Expr} {i : Nat} {y : Str} {py sp : Pos} {r : V} (T : CellK NM env cs i y) (hsw : swapsWith e (some (.Name y py)) sp.line env = pure false) (he : Ev prog w NM env L h₀ A e l σ r σ') (S : LS NM env h₀ L cs s₀ l σ s)
    {Q : Flow → Shared → Prop} {E : Value → Shared → Prop} (q : NextQ NM env h₀ L cs s₀ ((i, r) :: l) σ' Q) : wpAny (model prog w) A (exec (.Assign [.Name y py] e sp) env) Q E s := by
  obtain ⟨ρ, news, m, D, hl, hc⟩ := S.ex
  exact wpAny_Assign_Name (he D hl fun ρ1 news1 h1 tk1 u D1 L1 r1 => T.store C G.W.nm SL (s := ⟨h1, s.gens, s.drawn, tk1, s.os⟩) D1 (L1.loc hl) (fun x hx => (hc x hx).le L1) r1 fun cx o' h' D2 hl2 hc2 => q _ ⟨⟨ρ1, _, m, D2, hl2, hc2⟩, S.g, S.d, S.o⟩) hsw
theorem stepName (G : CfgOK K NM c) (C : Cx prog w K NM env L h₀ A d) (SL : env.locals = L) {e : PySem.Expr} {i : Nat} {y : Str} {py sp : Pos} {r : V} (hy : locB NM env.scope.names i y = true)
    (hsw : swapsWith e (some (.Name y py)) sp.line env = pure false) (he : Ev prog w NM env L h₀ A e l σ r σ') (S : LS NM env h₀ L cs s₀ l σ s)
    {Q : Flow → Shared → Prop} {E : Value → Shared → Prop} (q : NextQ NM env h₀ L cs s₀ ((i, r) :: l) σ' Q) : wpAny (model prog w) A (exec (.Assign [.Name y py] e sp) env) Q E s := by
  obtain ⟨ρ, news, m, D, hl, hc⟩ := S.ex
  exact wpAny_Assign_Name (he D hl fun ρ1 news1 h1 tk1 u D1 L1 r1 => store_ok C SL G.W.nm hy (s := ⟨h1, s.gens, s.drawn, tk1, s.os⟩) D1 (L1.loc hl) r1 fun m2 h2 tk2 D2 hl2 => q _ ⟨⟨ρ1, news1, m2, D2, hl2, fun x hx => (hc x hx).le L1⟩, S.g, S.d, S.o⟩) hsw
theorem stepTup (G : CfgOK K NM c) (C : Cx prog w K NM env L h₀ A d) (SL : env.locals = L) {e : PySem.Expr} {i j : Nat} {y z : Str} {py pz tp sp : Pos} {k : Nat} {t : Nat} {v1 v2 : V} (T : CellK NM env cs i y) (hz : locB NM env.scope.names j z = true) (hsw : swapsWithSole [.Tuple [.Name y py, .Name z pz] k tp] e sp.line env = pure false) (hw : swappedStores [.Tuple [.Name y py, .Name z pz] k tp] e env = pure none) (he : Ev prog w NM env L h₀ A e l σ (.ref t) σ') (ht : at? σ' t = some (.tup [v1, v2])) (S : LS NM env h₀ L cs s₀ l σ s)
    {Q : Flow → Shared → Prop} {E : Value → Shared → Prop} (q : NextQ NM env h₀ L cs s₀ ((j, v2) :: (i, v1) :: l) σ' Q) : wpAny (model prog w) A (exec (.Assign [.Tuple [.Name y py, .Name z pz] k tp] e sp) env) Q E s := by
  obtain ⟨ρ, news, m, D, hl, hc⟩ := S.ex
  refine Assign_Tuple (he D hl fun ρ1 news1 h1 tk1 u D1 L1 r1 => D1.isTup ht r1 rfl fun ta us hu p1 rr il => ?_) hsw hw
  rw [hu]
  refine unpackN_ (s := ⟨h1, s.gens, s.drawn, tk1, s.os⟩) D1.F D1.N il C.hh (by rw [List.size_toArray, rr.length]; rfl) rfl fun h2 F2 N2 => ?_
  cases rr with
  | cons ra rr =>
  cases rr with
  | cons rb rr =>
  cases rr
  show wpAny _ _ (assignInOrder [assign (.Name y py) env, assign (.Name z pz) env] _) _ _ _
  exact assignInOrder_cons (PyProof.Rows.assign_Name (T.store C G.W.nm SL (s := ⟨h2, s.gens, s.drawn, tk1, s.os⟩) (D1.same F2 N2) (L1.loc hl) (fun x hx => (hc x hx).le L1) ra fun cx o' h' D3 hl3 hc3 =>
    assignInOrder_cons (PyProof.Rows.assign_Name (store_ok C SL G.W.nm hz (s := ⟨h', s.gens, s.drawn, tk1, s.os⟩) D3 hl3 rb fun m4 h4 tk4 D4 hl4 => wpAny_pure (q _ ⟨⟨ρ1, _, m4, D4, hl4, hc3⟩, S.g, S.d, S.o⟩)))))
section comp
variable {n : Nat} {it : ITm} {cm : CM} {e : PySem.Expr} {cl : List (Str × Addr)} {lf : Loc} {f : Nat} {rs : List V}
theorem ev_comp (G : CfgOK K NM c) (C : Cx prog w K NM env L h₀ A d) (HC : CallsOK prog w K NM d cf) (hb : chkD K NM env.scope.names cm e = true) (hi : iterB K NM env.scope.names it (itOf e) = true) (hclos : closureFor (scOf e) env = pure cl)
    (he : cmpE c cf n l lf it cm f σ = some (rs, σ')) (hf : f ≤ 1000) (HF : ∀ {ρ news m}, LocR NM env L ρ news l m → ∀ Ca, LocR NM (compEnvC (scOf e) cl Ca env) L ρ news lf m) : Ev prog w NM env L h₀ A e l σ (.ref σ'.length) (σ' ++ [.list rs]) :=
  fun D hl _ _ q => comp_ok G C HC hb hclos hf (iter_ok G C HC hi he D hl) (HF hl) q
theorem stepComp (G : CfgOK K NM c) (C : Cx prog w K NM env L h₀ A d) (SL : env.locals = L) (HC : CallsOK prog w K NM d cf) {i : Nat} {y : Str} {py sp : Pos} (hb : chkD K NM env.scope.names cm e = true) (hi : iterB K NM env.scope.names it (itOf e) = true) (hclos : closureFor (scOf e) env = pure cl) (hy : locB NM env.scope.names i y = true) (hsw : swapsWith e (some (.Name y py)) sp.line env = pure true)
    (he : cmpE c cf n l lf it cm f σ = some (rs, σ')) (hf : f ≤ 1000) (HF : ∀ {ρ news m}, LocR NM env L ρ news l m → ∀ Ca, LocR NM (compEnvC (scOf e) cl Ca env) L ρ news lf m) (S : LS NM env h₀ L cs s₀ l σ s)
    {Q : Flow → Shared → Prop} {E : Value → Shared → Prop} (q : NextQ NM env h₀ L cs s₀ ((i, .ref σ'.length) :: l) (σ' ++ [.list rs]) Q) : wpAny (model prog w) A (exec (.Assign [.Name y py] e sp) env) Q E s := by
  obtain ⟨ρ, news, m, D, hl, hc⟩ := S.ex
  exact compAsg_ok G C SL HC hb hclos hy hsw hf (iter_ok G C HC hi he D hl) hl (HF hl) (S.nextF hc q)
end comp
noncomputable def nsB (e : PySem.Expr) : Bool := plainE e || (vw e).comp.isSome
theorem nsB_star {e : PySem.Expr} {es : List PySem.Expr} (h : nsB e = true) : starEach (e :: es) env = (false, eval e env) :: starEach es env := orE h (fun h => star_cons h) fun h => isE' h fun p hp => by rw [hp]; rfl
theorem ev_len (C : Cx prog w K NM env L h₀ A d) {x : Str} {p cp : Pos} {e : PySem.Expr} {i : Nat} {xs : List V} (hx : glbB K env.scope.names x (.bi .len) = true) (hs : nsB e = true) (G : CfgOK K NM c) (he : Ev prog w NM env L h₀ A e l σ (.ref i) σ') (hi : at? σ' i = some (.list xs)) (hz : xs.length ≤ 10000) :
    Ev prog w NM env L h₀ A (.Call (.Name x p) [e] [] cp) l σ (.int xs.length) σ' := by
  intro s ρ news m D hl Q E q
  refine Call_ (glb_ok C hx D.F fun fu hfu => ?_)
  cases hfu ρ
  have k : wpAny (model prog w) A (spliced (backTo cp (starEach [e] env))) (fun vs s' => wpAny (model prog w) A (call (.builtin (biId .len)) ([] ++ vs)) Q E s') E s := spliced_more (he D hl fun ρ1 news1 h1 tk1 u D1 L1 r1 => spliced_none (by
    have un := C.un
    refine biV_ok C.X G.W C.hh C.gd (by omega) .len (s := ⟨h1, s.gens, s.drawn, tk1, s.os⟩) D1 (as := [.ref i]) (.cons r1 .nil) (r := (.int xs.length, σ')) ?_ (q.le L1)
    show (listAt σ' i).bind (fun xs => gd (Nat.ble xs.length 10000) (some (V.int xs.length, σ'))) = _
    unfold listAt
    rw [hi]
    show gd (Nat.ble xs.length 10000) _ = _
    rw [Nat.ble_eq_true_of_le hz]; rfl)) (nsB_star hs)
  rw [nsB_star hs] at k ⊢
  exact Calls.callWith_builtin rfl (evalArgs_plain k)
theorem ev_tup2 {e1 e2 : PySem.Expr} {k : Nat} {p : Pos} {σ1 σ2 : H} {v1 v2 : V} (h1 : Ev prog w NM env L h₀ A e1 l σ v1 σ1) (h2 : Ev prog w NM env L h₀ A e2 l σ1 v2 σ2) (s1 : nsB e1 = true) (s2 : nsB e2 = true) : Ev prog w NM env L h₀ A (.Tuple [e1, e2] k p) l σ (.ref σ2.length) (σ2 ++ [.tup [v1, v2]]) := by
  intro s ρ news m D hl Q E q
  exact Tuple_ (spliced_more (h1 D hl fun ρ1 news1 hh1 tk1 y1 D1 L1 r1 => spliced_more (h2 (s := ⟨hh1, s.gens, s.drawn, tk1, s.os⟩) D1 (L1.loc hl) fun ρ2 news2 hh2 tk2 y2 D2 L2 r2 => spliced_none (newTup_ok (s := ⟨hh2, s.gens, s.drawn, tk2, s.os⟩) D2 (.cons (L2.vr r1) (.cons r2 .nil)) rfl (q.le (L1.trans L2)))) (nsB_star s2)) (nsB_star s1))
theorem ev_list2 {e1 e2 : PySem.Expr} {p : Pos} {σ1 σ2 : H} {v1 v2 : V} (h1 : Ev prog w NM env L h₀ A e1 l σ v1 σ1) (h2 : Ev prog w NM env L h₀ A e2 l σ1 v2 σ2) (s1 : nsB e1 = true) (s2 : nsB e2 = true) : Ev prog w NM env L h₀ A (.List [e1, e2] p) l σ (.ref σ2.length) (σ2 ++ [.list [v1, v2]]) := by
  intro s ρ news m D hl Q E q
  exact List_ (spliced_more (h1 D hl fun ρ1 news1 hh1 tk1 y1 D1 L1 r1 => spliced_more (h2 (s := ⟨hh1, s.gens, s.drawn, tk1, s.os⟩) D1 (L1.loc hl) fun ρ2 news2 hh2 tk2 y2 D2 L2 r2 => spliced_none (newList_ok (s := ⟨hh2, s.gens, s.drawn, tk2, s.os⟩) D2 (.cons (L2.vr r1) (.cons r2 .nil)) rfl (q.le (L1.trans L2)))) (nsB_star s2)) (nsB_star s1))
end st
end MP
end
section
namespace MP
open PySem (CmpOp Operator)
noncomputable def cm1 : CM := ⟨.bin .Mod (.call (.cst (.bi .absB)) [.nm 114]) (.bin .Pow (.cst (.int 10)) (.cst (.int 60))), [114], none⟩
noncomputable def cm2 : CM := ⟨.nm 114, [114], some (.cmp .GtE (.nm 114) (.bin .Pow (.cst (.int 10)) (.cst (.int 9))))⟩
noncomputable def dkB : List MS := [.asgN 113 (.bin .Mod (.bin .Add (.bin .Add (.bin .Mult (.nm 113) (.cst (.int 31))) (.nm 114)) (.cst (.int 3))) (.cst (.int 2147483647)))]
noncomputable def dkS : MS := .forL [114] (.nm 112) dkB
section
variable {c : Cfg} {cf : CF} {n j f k : Nat} {a : PySem.Addr} {lf : Loc} {cm : CM} {σ : H} {xs : List V} {v : V}
theorem cmpL_list (h : at? σ j = some (.list xs)) : cmpL c cf n (.lst j a) lf cm (f + 1) k σ = (at? xs k).elim (some ([], σ)) (cmT c cf n lf cm (cmpL c cf n (.lst j a) lf cm f (k + 1)) σ) := by
  show ((listAt σ j).map fun xs => at? xs k).bind _ = _
  rw [listAt_of h]; rfl
theorem cmpL_end {done : List V} (h : at? σ j = some (.list done)) : cmpL c cf n (.lst j a) lf cm (f + 1) done.length σ = some ([], σ) := by rw [cmpL_list h, at_done]; rfl
theorem cmpL_step {done rest : List V} (h : at? σ j = some (.list (done ++ v :: rest))) : cmpL c cf n (.lst j a) lf cm (f + 1) done.length σ = cmT c cf n lf cm (cmpL c cf n (.lst j a) lf cm f (done.length + 1)) σ v := by rw [cmpL_list h, at_mid]; rfl
theorem cmpL_ints {g : Int → Option Int} (step : ∀ x K, cmT c cf n lf cm K σ (.int x) = (g x).elim (K σ) fun y => (K σ).map fun z => (V.int y :: z.1, z.2)) (rest : List Int) : ∀ {done : List V} {f : Nat}, rest.length < f → at? σ j = some (.list (done ++ rest.map V.int)) → cmpL c cf n (.lst j a) lf cm f done.length σ = some ((rest.filterMap g).map V.int, σ) := by
  induction rest with
  | nil =>
    intro done f hf h
    obtain ⟨f, rfl⟩ : ∃ g, f = g + 1 := ⟨f - 1, by omega⟩
    rw [List.map_nil, List.append_nil] at h
    exact cmpL_end h
  | cons x rest ih =>
    intro done f hf h
    obtain ⟨f, rfl⟩ : ∃ g, f = g + 1 := ⟨f - 1, by omega⟩
    have g1 := ih (done := done ++ [.int x]) (f := f) (Nat.lt_of_succ_lt_succ hf) (by rw [← snocE]; exact h)
    rw [snocL] at g1
    rw [cmpL_step (v := .int x) (rest := rest.map V.int) h, step, g1, List.filterMap_cons]
    cases g x <;> rfl
end
section
variable {d n : Nat} {σ : H} {K : H → RL} {x : Int}
theorem cm1_step : cmT cfg (callN cfg (d + 1)) (n + 20) [] cm1 K σ (.int x) = (K σ).map fun z => (V.int ((if x < 0 then -x else x).fmod (10 ^ 60)) :: z.1, z.2) := by kernel_rfl
theorem cm2_step : cmT cfg (callN cfg (d + 1)) (n + 20) [] cm2 K σ (.int x) = bif decide (x ≥ 10 ^ 9) then (K σ).map fun z => (V.int x :: z.1, z.2) else K σ := by kernel_rfl
theorem dkB_eq {cf : CF} {l : Loc} {y a : Int} (h : lk ((114, .int a) :: l) 113 = some (.int y)) : exB cfg cf (n + 20) ((114, .int a) :: l) dkB σ = some (.next, (113, .int ((y * 31 + a + 3).fmod 2147483647)) :: (114, .int a) :: l, σ) := by
  unfold dkB
  rw [exB_step (n := n + 19) (ex_asgN (n := n + 18) (ev_bin (n := n + 17) (ev_bin (n := n + 16) (ev_bin (n := n + 15) (ev_bin (n := n + 14) (ev_nm (n := n + 13) (l := (114, .int a) :: l) h) (ev_int (n := n + 13) 31) (z := y * 31) rfl) (ev_nm (n := n + 14) rfl) (z := y * 31 + a) rfl) (ev_int (n := n + 15) 3) (z := y * 31 + a + 3) rfl) (ev_int (n := n + 16) 2147483647) (op_mod (by decide) _)))]
  rfl
theorem dk_loop {cf : CF} {j : Nat} (rest : List Int) : ∀ {done : List V} {l : Loc} {N : Nat} {y : Int}, rest.length ≤ N → at? σ j = some (.list (done ++ rest.map V.int)) → (done ++ rest.map V.int).length ≤ 10000 → lk l 113 = some (.int y) →
    ∃ l' z, exI cfg cf (N + 21) l [114] j done.length dkB σ = some (.next, l', σ) ∧ lk l' 113 = some (.int z) ∧ lk l' 112 = lk l 112 := by
  induction rest with
  | nil =>
    intro done l N y hN hj hz h
    rw [List.map_nil, List.append_nil] at hj hz
    exact ⟨l, y, exI_end hj hz, h, rfl⟩
  | cons a rest ih =>
    intro done l N y hN hj hz h
    obtain ⟨N, rfl⟩ : ∃ M, N = M + 1 := ⟨N - 1, by rw [List.length_cons] at hN; omega⟩
    rw [show done ++ (a :: rest).map V.int = (done ++ [.int a]) ++ rest.map V.int from snocE done _ _] at hz
    obtain ⟨l', z, g1, g2, g3⟩ := ih (done := done ++ [.int a]) (l := (113, .int ((y * 31 + a + 3).fmod 2147483647)) :: (114, .int a) :: l) (N := N) (Nat.le_of_succ_le_succ hN) (by rw [← snocE]; exact hj) hz rfl
    rw [snocL] at g1
    exact ⟨l', z, (exI_step (l0 := (114, .int a) :: l) (rest := rest.map V.int) hj rfl (dkB_eq h)).trans g1, g2, g3⟩
theorem deck_plain (σ : H) (ns : List Int) (hn : ns.length ≤ 24) (v : V) : ∃ cs cs2 : List Int, cs2.length ≤ 24 ∧ cmpL cfg (callN cfg (d + 1)) 1020 (.lst σ.length 0) [] cm1 30 0 (σ ++ [.list (ns.map V.int)]) = some (cs.map V.int, σ ++ [.list (ns.map V.int)]) ∧
    ∀ τ j, at? τ j = some (.list (cs.map V.int)) → ∃ l2 y, exS cfg (callN cfg (d + 1)) 1031 [(112, .ref j), (113, .int 7), (111, v)] dkS τ = some (.next, l2, τ) ∧ lk l2 113 = some (.int y) ∧ cmpE cfg (callN cfg (d + 1)) 1020 l2 [] (.lst (.nm 112)) cm2 30 τ = some (cs2.map V.int, τ) := by
  have h1 := cmpL_ints (c := cfg) (cf := callN cfg (d + 1)) (n := 1000 + 20) (a := 0) (lf := []) (cm := cm1) (σ := σ ++ [.list (ns.map V.int)]) (j := σ.length) (g := fun x => some ((if x < 0 then -x else x).fmod (10 ^ 60))) (fun x K => cm1_step) ns (done := []) (f := 30) (by omega) (at_end _ _)
  have e1 := List.length_filterMap_le (fun x : Int => some ((if x < 0 then -x else x).fmod (10 ^ 60))) ns
  generalize ns.filterMap (fun x : Int => some ((if x < 0 then -x else x).fmod (10 ^ 60))) = cs at h1 e1
  have e2 := List.length_filterMap_le (fun x : Int => bif decide (x ≥ 10 ^ 9) then some x else none) cs
  refine ⟨cs, _, Nat.le_trans e2 (Nat.le_trans e1 hn), h1, fun τ j hj => ?_⟩
  obtain ⟨l', z, g1, g2, g3⟩ := dk_loop (σ := τ) (cf := callN cfg (d + 1)) (j := j) cs (done := []) (l := [(112, .ref j), (113, .int 7), (111, v)]) (N := 1009) (y := 7) (by omega) hj (by rw [List.nil_append, List.length_map]; omega) rfl
  refine ⟨l', z, (exS_forL (n := 1028) rfl hj).trans g1, g2, ?_⟩
  show (evE cfg (callN cfg (d + 1)) (1019 + 1) l' (.nm 112) τ).bind (fun p => (refV p.1).bind fun j => (listAt p.2 j.1).bind fun _ => cmpL cfg (callN cfg (d + 1)) 1020 (.lst j.1 0) [] cm2 30 0 p.2) = _
  rw [evE_nm, g3]
  show (listAt τ j).bind _ = _
  rw [listAt_of hj]
  exact cmpL_ints (c := cfg) (cf := callN cfg (d + 1)) (n := 1000 + 20) (lf := []) (cm := cm2) (σ := τ) (j := j) (g := fun x => bif decide (x ≥ 10 ^ 9) then some x else none) (fun x K => by rw [cm2_step]; cases decide (x ≥ 10 ^ 9) <;> rfl) cs (done := []) (f := 30) (by omega) hj
end
end MP
end
section
open PySem PySem.W PyProof.Rows PySem.Calls
namespace MP
noncomputable def closL (cells : List (Str × Addr)) : Nms → List (Str × Addr) → Option (List (Str × Addr))
  | [], acc => some acc
  | p :: r, acc => if (p.2 == .free) = true then (cells.lookup p.1).bind fun a => closL cells r ((p.1, a) :: acc) else closL cells r acc
theorem clos_ok {scope : PySem.Scope} {env : Env} {cl : List (Str × Addr)} (h : closL env.cells scope.names [] = some cl) : closureFor scope env = pure cl := by
  unfold closureFor
  have key : ∀ (names : Nms) (acc : List (Str × Addr)), closL env.cells names acc = some cl → (forIn names acc fun (x : Str × NameKind) r => match x with
      | (name, kind) => if (kind == NameKind.free) = true then do
          let c ← cellOf env name
          pure (ForInStep.yield ((name, c) :: r))
        else pure (ForInStep.yield r) : Sem (List (Str × Addr))) = pure cl := by
    intro names
    induction names with
    | nil => intro acc h; cases h; rfl
    | cons p r ih =>
      intro acc h
      obtain ⟨n, k⟩ := p
      rw [List.forIn_cons]
      by_cases hk : (k == NameKind.free) = true
      · have h : (if (k == .free) = true then (env.cells.lookup n).bind fun a => closL env.cells r ((n, a) :: acc) else closL env.cells r acc) = some cl := h
        rw [if_pos hk] at h
        refine bdE h fun a ha h => ?_
        dsimp only
        rw [if_pos hk, show cellOf env n = pure a by unfold cellOf; rw [ha]]
        exact ih _ h
      · have h : (if (k == .free) = true then (env.cells.lookup n).bind fun a => closL env.cells r ((n, a) :: acc) else closL env.cells r acc) = some cl := h
        rw [if_neg hk] at h
        dsimp only
        rw [if_neg hk]
        exact ih _ h
  exact (congrArg (fun t : Sem (List (Str × Addr)) => t >>= fun r => pure r) (key scope.names [] h)).trans rfl
theorem closL_filter (cells : List (Str × Addr)) (names : Nms) : ∀ acc, closL cells names acc = closL cells (names.filter fun x => x.2 == .free) acc := by
  induction names with
  | nil => exact fun _ => rfl
  | cons p r ih =>
    intro acc
    rw [List.filter_cons]
    show (if (p.2 == .free) = true then (cells.lookup p.1).bind fun a => closL cells r ((p.1, a) :: acc) else closL cells r acc) = _
    by_cases h : (p.2 == NameKind.free) = true
    · rw [if_pos h, if_pos h]
      show _ = if (p.2 == .free) = true then (cells.lookup p.1).bind fun a => closL cells (r.filter fun x => x.2 == .free) ((p.1, a) :: acc) else _
      rw [if_pos h]
      exact congrArg _ (funext fun a => ih _)
    · rw [if_neg h, if_neg h]; exact ih acc
noncomputable def freeB (sc : PySem.Scope) (xs : List Str) : Bool := (sc.names.filter fun x => x.2 == .free) == xs.map fun x => (x, .free)
theorem clos_of {sc : PySem.Scope} {env : Env} {xs : List Str} {cl : List (Str × Addr)} (h : freeB sc xs = true) (hc : closL env.cells (xs.map fun x => (x, .free)) [] = some cl) : closureFor sc env = pure cl := clos_ok (by rw [closL_filter, eq_ok h]; exact hc)
theorem ints_vsr {ρ : List RA} {vs : List Value} {ns : List Int} (h : IntsAre vs ns) : VsR ρ (ns.map V.int) vs := by
  induction h with
  | nil => exact .nil
  | cons k t _ ih => exact .cons (.int _ _) ih
theorem VsR.take {ρ : List RA} {vs : List V} {xs : List Value} (h : VsR ρ vs xs) : ∀ n, VsR ρ (vs.take n) (xs.take n) := by
  induction h with
  | nil => intro n; rw [List.take_nil, List.take_nil]; exact .nil
  | cons a _ ih =>
    intro n
    cases n with
    | zero => exact .nil
    | succ n => exact .cons a (ih n)
noncomputable def sliceB (K : Frag) (ns : Nms) (e : PySem.Expr) : Bool := ob (vw e).sub fun p => ob (vw p.1.1).name fun x => ob (vw p.1.2.1).slc fun y => y.1.1.isNone && ob y.1.2.1 fun u => rdB NM ns 111 x.1.1 && cstB K ns (.int 24) u
section st
variable {prog : Program} {w : World} {K : Frag} {c : Cfg} {env : Env} {L : Addr} {h₀ : Heap} {A : Around} {d : Nat} {cf : CF}
theorem slice_hit (C : Cx prog w K NM env L h₀ A d) {n : Nat} {lf : Loc} {cm : CM} {f : Nat} {σ : H} {r : List V × H} {e : PySem.Expr} {scr : Addr} {vs : List Value} {ns : List Int} {l : Loc}
    (hb : sliceB K env.scope.names e = true) (hv : lk l 111 = some (.val scr)) (hI : h₀.IsList scr vs.toArray) (hN : IntsAre vs ns) (hz : vs.length ≤ 10000)
    {s : Shared} {ρ : List RA} {news : Led} {m : Str → Option Value} (D : Dy NM h₀ L ρ σ m news s.heap) (hl : LocR NM env L ρ news l m)
    (he : cmpL c cf n (.lst σ.length 0) lf cm f 0 (σ ++ [.list ((ns.take 24).map V.int)]) = some r) : Hit prog w NM c env L h₀ A cf n lf cm f e r s ρ news m := by
  intro Q E q
  exact osE hb fun p hp hb => osE hb fun x hx hb => osE hb fun y hy hb => anE hb fun b0 hb => obE hb fun u hu hb => anE hb fun b1 b2 => by
    obtain ⟨b1, b3⟩ := rdB_ok b1
    obtain ⟨us, hus, hr⟩ := hl _ _ hv _ b1
    cases hr
    rw [hp, show p.1 = _ from hx, show p.2.1 = _ from hy, Option.isNone_iff_eq_none.mp b0, show y.2.1 = _ from hu]
    refine Subscript_ (rd_ok C D hus b3 (wpAny_Slice (evalPart_none_step (evalPart_some_step (cst_ok C b2 D fun ρ2 news2 hh2 tk2 y2 D2 L2 r2 => evalPart_none_step ?_)))))
    cases r2
    rename_i tk
    have il : hh2.IsList scr vs.toArray := by
      obtain ⟨o, ho, hr⟩ := hI
      exact ⟨o, D2.F.keep _ _ ho, hr⟩
    refine kms_slice_lit (s := ⟨hh2, s.gens, s.drawn, tk2, s.os⟩) (zs := vs.take 24) D2.F D2.N il .none (.int 24 tk) ?_ (fun B h' F' N' lt => ?_) rfl (fun _ => rfl) (by rw [List.size_toArray]; exact Nat.le_trans hz (by decide))
    · unfold kms_pick kms_lo kms_hi
      simp only
      rw [if_neg (by decide)]
      show (List.drop 0 vs).take (min 24 vs.length - 0) = _
      rw [List.drop_zero, Nat.sub_zero]
      by_cases hlen : 24 ≤ vs.length
      · rw [Nat.min_eq_left hlen]
      · rw [Nat.min_eq_right (by omega), List.take_of_length_le (Nat.le_refl _), List.take_of_length_le (by omega)]
    · have rd : VsR ρ2 ((ns.take 24).map V.int) (vs.take 24) := by
        rw [List.map_take]
        exact (ints_vsr hN).take 24
      exact newL (Q := fun x s => wpAny (model prog w) A (pyIter x) Q E s) (s := ⟨hh2, s.gens, s.drawn, tk2, s.os⟩) D2 (fresh_lt lt) F' N' rd fun ρ1 news1 h1 tk1 y1 D1 L1 r1 => D1.isList (at_end _ _) r1 rfl fun la us n1 e1 p1 m1 rr il => by
        rw [e1]
        rw [e1] at r1
        exact hit_list D1 (L2.trans L1) r1 il he q
end st
theorem chkD_ns {K : Frag} {NM : List Str} {ns : Nms} {cm : CM} {e : PySem.Expr} (h : chkD K NM ns cm e = true) : nsB e = true := chkD_of h fun _ _ _ _ _ _ he _ => by rw [he]; rfl
theorem plain_ns {e : PySem.Expr} (h : plainE e = true) : nsB e = true := by unfold nsB; rw [h]; rfl
theorem locr_nil {NM : List Str} {env : Env} {L : Addr} {ρ : List RA} {news : Led} {m : Str → Option Value} : LocR NM env L ρ news [] m := fun i v e => by cases e
noncomputable def swpB (ns : Nms) (is : List Nat) (es : List PySem.Expr) (v : PySem.Expr) : Bool := swYes ns es v && (nmsB NM ns is.reverse (swNames ns es).reverse && (Nat.beq is.length (swNames ns es).length && plainE v))
section sw
variable {prog : Program} {w : World} {K : Frag} {env : Env} {L : Addr} {h₀ : Heap} {A : Around} {d : Nat}
theorem stepSw (nm : nmOk NM) (C : Cx prog w K NM env L h₀ A d) (SL : env.locals = L) {es : List PySem.Expr} {is : List Nat} {k : Nat} {p sp : Pos} {v : PySem.Expr} {l l' : Loc} {σ σ' : H} {t : Nat} {xs : List V} (hb : swpB env.scope.names is es v = true)
    (he : Ev prog w NM env L h₀ A v l σ (.ref t) σ') (ht : at? σ' t = some (.tup xs)) (hp : putAll l is.reverse xs.reverse = some l') {s : Shared} {ρ : List RA} {news : Led} {m : Str → Option Value} (D : Dy NM h₀ L ρ σ m news s.heap) (hl : LocR NM env L ρ news l m)
    {Q : Flow → Shared → Prop} {E : Value → Shared → Prop} (q : PostF NM env h₀ L ρ news σ' l' .next Q s) : wpAny (model prog w) A (exec (.Assign [.Tuple es k p] v sp) env) Q E s :=
  anE hb fun b1 hb => anE hb fun b2 hb => anE hb fun b3 b4 => Assign_Tuple_swapped (he D hl fun ρ1 news1 h1 tk1 y1 D1 L1 r1 => D1.isTup ht r1 rfl fun ta us hu p1 rr il => by
    rw [hu]
    refine unpackItemsN_ (s := ⟨h1, s.gens, s.drawn, tk1, s.os⟩) D1.F D1.N il C.hh ?_ fun h2 F2 N2 => order_ok C SL nm (f := fun n => bindName env n) (fun z => bindName_ z) (s := ⟨h2, s.gens, s.drawn, tk1, s.os⟩) b2 hp rr.rev (D1.same F2 N2) (L1.loc hl) fun m3 h3 tk3 D3 hl3 => q _ _ _ _ _ _ D3 L1 hl3 .next
    have := putAll_len hp
    rw [List.length_reverse, List.length_reverse] at this
    rw [List.size_toArray, rr.length, ← this, nbeq.mp b3]) (plain_sole b4 _ _ _) (swYes_ok C.kf b1)
end sw
noncomputable def deckB (K : Frag) (ns : Nms) (b : List PySem.Stmt) : Bool := ob (arg3 b) fun s => ob (vs s.1.1).asg fun p => ob (vw p.1.1).tup fun t => ob (vw p.1.2.1).tup fun u => ob (arg2 u.1.1) fun e => ob (vs s.1.2.2).ret fun r => ob (vw r.1.1).list fun li => ob (arg2 li.1.1) fun e' =>
  swpB ns [112, 113] t.1.1 p.1.2.1 && (chkD K NM ns cm1 e.1.1 && (sliceB K ns (itOf e.1.1) && (freeB (scOf e.1.1) [] && (chkE K NM ns 60 (.cst (.int 7)) e.1.2 && (plainE e.1.2 && (chkS K NM ns 60 dkS s.1.2.1 &&
    (chkD K NM ns cm2 e'.1.1 && (iterB K NM ns (.lst (.nm 112)) (itOf e'.1.1) && (freeB (scOf e'.1.1) [] && (chkE K NM ns 60 (.nm 113) e'.1.2 && plainE e'.1.2))))))))))
section st
variable {prog : Program} {w : World} {P : Params} {env : Env} {L : Addr} {h₀ : Heap} {A : Around} {d : Nat} {scr : Addr} {vs : List Value} {ns : List Int} {σ : H}
theorem deck_body {L' : Addr} {g : Heap} {env' : Env} {A' : Around} (C : Cx prog w (HD.K P) NM env' L' g A' (d + 1)) (SL : env'.locals = L') (hcl : env'.cells = []) {body : List PySem.Stmt} (hb : deckB (HD.K P) env'.scope.names body = true) (hI : g.IsList scr vs.toArray) (hN : IntsAre vs ns) (hz : vs.length ≤ 10000)
    {σ1 σ2 σ3 σ4 : H} {cs cs2 : List Int} {l2 : Loc} {y : Int} (e1 : σ1 = σ ++ [.list ((ns.take 24).map V.int)]) (e2 : σ2 = σ1 ++ [.list (cs.map V.int)]) (e3 : σ3 = σ2 ++ [.tup [.ref σ1.length, .int 7]]) (e4 : σ4 = σ3 ++ [.list (cs2.map V.int)])
    (h1 : cmpL cfg (callN cfg (d + 1)) 1020 (.lst σ.length 0) [] cm1 30 0 σ1 = some (cs.map V.int, σ1)) (h2 : exS cfg (callN cfg (d + 1)) 1031 [(112, .ref σ1.length), (113, .int 7), (111, .val scr)] dkS σ3 = some (.next, l2, σ3)) (h3 : lk l2 113 = some (.int y)) (h4 : cmpE cfg (callN cfg (d + 1)) 1020 l2 [] (.lst (.nm 112)) cm2 30 σ3 = some (cs2.map V.int, σ3))
    {s' : Shared} {ρ : List RA} {news : Led} {m' : Str → Option Value} (D : Dy NM g L' ρ σ m' news s'.heap) (hl : LocR NM env' L' ρ news [(111, .val scr)] m') {Q : Flow → Shared → Prop} {E : Value → Shared → Prop}
    (q : ∀ ρ' news' h' tk m'' z, Dy NM g L' ρ' (σ4 ++ [.list [.ref σ3.length, .int y]]) m'' news' h' → Le ρ ρ' news news' → VR ρ' (.ref σ4.length) z → Q (.ret z) { heap := h', gens := s'.gens, drawn := s'.drawn, toks := tk, os := s'.os }) : wpAny (model prog w) A' (execs body env') Q E s' :=
  osE hb fun s hs hb => osE hb fun p hp hb => osE hb fun t ht hb => osE hb fun u hu hb => osE hb fun e he hb => osE hb fun r hr hb => osE hb fun li hli hb => osE hb fun e' he' hb => anE hb fun b1 hb => anE hb fun b2 hb => anE hb fun b3 hb => anE hb fun b4 hb => anE hb fun b5 hb => anE hb fun b6 hb => anE hb fun b7 hb => anE hb fun b8 hb => anE hb fun b9 hb => anE hb fun b10 hb => anE hb fun b11 b12 => by
    have G := (tab_ok P).G
    have HC : CallsOK prog w (HD.K P) NM (d + 1) (callN cfg (d + 1)) := calls_ok (tab_ok P) (d + 1)
    have E1 : Ev prog w NM env' L' g A' e.1 [(111, .val scr)] σ (.ref σ1.length) σ2 := fun D hl Q E q => by
      rw [e2] at q
      exact comp_ok (n := 1020) (f := 30) G C HC b2 (clos_of b4 (by rw [hcl]; rfl)) (by decide) (slice_hit C b3 rfl hI hN hz D hl (by rw [← e1]; exact h1)) (fun _ => locr_nil) q
    have E2 : Ev prog w NM env' L' g A' e.2 [(111, .val scr)] σ2 (.int 7) σ2 := ev_of (n := 100) G C HC b5 (ev_int (n := 99) 7)
    have ET : Ev prog w NM env' L' g A' p.2.1 [(111, .val scr)] σ (.ref σ2.length) σ3 := by
      rw [show p.2.1 = _ from hu, show u.1 = _ from he, e3]
      exact ev_tup2 E1 E2 (chkD_ns b2) (plain_ns b6)
    have E3 : Ev prog w NM env' L' g A' e'.1 l2 σ3 (.ref σ3.length) σ4 := by
      rw [e4]
      exact ev_comp G C HC b8 b9 (clos_of b10 (by rw [hcl]; rfl)) h4 (by decide) (fun _ _ => locr_nil)
    have EL : Ev prog w NM env' L' g A' r.1 l2 σ3 (.ref σ4.length) (σ4 ++ [.list [.ref σ3.length, .int y]]) := by
      rw [show r.1 = _ from hli, show li.1 = _ from he']
      exact ev_list2 E3 (ev_of (n := 100) G C HC b11 (ev_nm (n := 99) h3)) (chkD_ns b8) (plain_ns b12)
    rw [hs, show s.1 = _ from hp, show p.1 = _ from ht, show s.2.2 = _ from hr]
    refine wpAny_execs_cons (stepSw G.W.nm C SL (is := [112, 113]) b1 ET (by rw [e3]; exact at_end _ _) rfl D hl fun ρ1 news1 h1 tk1 m1 pf D1 L1 hl1 hf => ?_)
    cases hf
    refine wpAny_execs_cons ((st_ok G C SL HC 1031).1 b7 h2 (s := ⟨h1, s'.gens, s'.drawn, tk1, s'.os⟩) D1 hl1 fun ρ2 news2 h2 tk2 m2 pf2 D2 L2 hl2 hf2 => ?_)
    cases hf2
    exact wpAny_execs_cons (wpAny_Return_some (EL (s := ⟨h2, s'.gens, s'.drawn, tk2, s'.os⟩) D2 hl2 fun ρ3 news3 h3 tk3 z D3 L3 r3 => q _ _ _ _ _ _ D3 ((L1.trans L2).trans L3) r3))
theorem deck_ev (C : Cx prog w (HD.K P) NM env L h₀ A (d + 2)) {x y : Str} {p p2 cp : Pos} (hx : glbB (HD.K P) env.scope.names x (.val 1099) = true) (hk : keptB (HD.K P) (.val 1099) = true) (hy : rdB NM env.scope.names 115 y = true) (HF : fnC (HD.K P) NM 1099 [111] (deckB (HD.K P)) = true) {l : Loc} (hv : lk l 115 = some (.val scr)) (hI : h₀.IsList scr vs.toArray) (hN : IntsAre vs ns) (hz : vs.length ≤ 10000) (σ : H) :
    ∃ σ' D c0, Deck σ' D c0 ∧ Ev prog w NM env L h₀ A (.Call (.Name x p) [.Name y p2] [] cp) l σ (.ref D) σ' := by
  obtain ⟨cs, cs2, h0, h1, hr⟩ := deck_plain (d := d) σ (ns.take 24) (by rw [List.length_take]; exact Nat.min_le_left _ _) (.val scr)
  obtain ⟨σ1, e1⟩ : ∃ σ1 : H, σ1 = σ ++ [.list ((ns.take 24).map V.int)] := ⟨_, rfl⟩
  obtain ⟨σ2, e2⟩ : ∃ σ2 : H, σ2 = σ1 ++ [.list (cs.map V.int)] := ⟨_, rfl⟩
  obtain ⟨σ3, e3⟩ : ∃ σ3 : H, σ3 = σ2 ++ [.tup [.ref σ1.length, .int 7]] := ⟨_, rfl⟩
  obtain ⟨σ4, e4⟩ : ∃ σ4 : H, σ4 = σ3 ++ [.list (cs2.map V.int)] := ⟨_, rfl⟩
  rw [← e1] at h1
  obtain ⟨l2, z, h2, h3, h4⟩ := hr σ3 σ1.length (by rw [e3, e2]; exact at_app (at_end _ _))
  refine ⟨σ4 ++ [.list [.ref σ3.length, .int z]], σ4.length, σ3.length, ⟨by rw [e4, List.length_append]; exact Nat.ne_of_gt (Nat.lt_succ_self _), ⟨z, at_end _ _⟩, ⟨cs2, by rw [e4]; exact at_app (at_end _ _), by omega⟩⟩, fun {s ρ news m} D hl Q E q => ?_⟩
  obtain ⟨b1, b3⟩ := rdB_ok hy
  obtain ⟨us, hus, hr⟩ := hl _ _ hv _ b1
  cases hr
  obtain ⟨pp, loose, mean, mg, mb, T⟩ := C.Tp
  obtain ⟨A₀, base, fenv, outer, B, hA, hfr, hfk⟩ := C.B
  have dep := C.dep
  have un := C.un
  refine Call_ (glb_ok C hx D.F fun fu hfu => callW_ok (g := fun _ _ => true) (ms := [.stop]) (ρ := ρ) rfl (hfu ρ) hk (spliced_more (rd_ok C D hus b3 (spliced_none ⟨C.X.keeps D.F.keep, ?_⟩)) (star_cons rfl)))
  cases hfu ρ
  refine wpAny_call (fnopen (d := d + 1) (vs := [.val scr]) (OK := fun σ' r => (r, σ') = (.ref σ4.length, σ4 ++ [.list [.ref σ3.length, .int z]])) (tab_ok P).G.W.nm HF C.X T B hA hfr C.hh hfk (by omega) (by omega) C.gd rfl D (.cons (.val _) .nil) (fun σ' r ρ' news' h' tk z ok D' L' r' => ?_) fun g L' env' A' s' m' Q' E' body hg C' SL hcl hb D' hl' q' _ =>
    deck_body C' SL hcl hb (by obtain ⟨o, ho, hr⟩ := hI; exact ⟨o, hg _ _ ho, hr⟩) hN hz e1 e2 e3 e4 h1 h2 h3 h4 D' hl' fun ρ' news' h' tk m'' y' D2 L2 r2 => q' _ _ _ _ _ _ _ _ rfl D2 L2 r2)
  have ok := Prod.mk.inj ok
  rw [ok.1] at r'
  rw [ok.2] at D'
  exact q _ _ _ tk _ D' L' r'
end st
noncomputable def dr (k : Int) : ME := .call (.cst (.val 1106)) [.nm 82, .cst (.int k)]
noncomputable def cmF1 : CM := ⟨.tup [.cmp .Eq (dr 2) (.cst (.int 0)), dr 12], [98], none⟩
noncomputable def cmF2 : CM := ⟨.tup [.nm 97, .ite (.nm 97) (.bin .Mod (.nm 87) (.cst (.int 6))) (.bin .Mod (.nm 87) (.cst (.int 4)))], [97, 87], none⟩
noncomputable def cmW : CM := ⟨.nm 87, [97, 87], some (.not (.nm 97))⟩
theorem Deck.kp {σ σ' : H} {D c0 : Nat} (h : Deck σ D c0) (k : Kp σ σ') : Deck σ' D c0 := by
  obtain ⟨x, h1⟩ := h.dk
  obtain ⟨cs, h2, h3⟩ := h.cl
  exact ⟨h.ne, ⟨x, k _ _ h1⟩, ⟨cs, k _ _ h2, h3⟩⟩
theorem Deck.tup {σ σ' : H} {D c0 : Nat} (dk : Deck σ D c0) (E : Ext2 D c0 σ σ') (t : Nat) (xs : List V) (h : at? σ t = some (.tup xs)) : at? σ' t = some (.tup xs) := by
  refine E _ _ ?_ ?_ h
  · rintro rfl
    obtain ⟨x, h2⟩ := dk.dk
    rw [h2] at h; cases h
  · rintro rfl
    obtain ⟨cs, h2, _⟩ := dk.cl
    rw [h2] at h; cases h
section
variable {d n D c0 : Nat} {l : Loc} {σ : H}
theorem dr_ev (dk : Deck σ D c0) (hl : lk l 82 = some (.ref D)) (k : Int) (h0 : 0 < k) (h1 : k < 1000) : ∃ σ' r, evE cfg (callN cfg (d + 2)) (n + 4) l (dr k) σ = some (.int r, σ') ∧ 0 ≤ r ∧ r < k ∧ Deck σ' D c0 ∧ Ext2 D c0 σ σ' := by
  obtain ⟨σ', r, g1, g2⟩ := draw_eq (d := d) dk h0 h1
  exact ⟨σ', r, ev_call (n := n + 2) (evL_cons (ev_nm (n := n + 2) hl) (evL_cons (ev_int (n := n + 2) k) rfl)) rfl g1, g2⟩
theorem cmT_X {c : Cfg} {cf : CF} {lf l1 : Loc} {cm : CM} {g : H → RL} {v r : V} {σ2 : H} (ht : tgtPut σ lf cm.is v = some l1) (hc : cm.cond = none) (he : evE c cf n l1 cm.elt σ = some (r, σ2)) : cmT c cf n lf cm g σ v = (g σ2).map fun z => (r :: z.1, z.2) := by
  unfold cmT cmC cmX
  rw [ht, hc]
  show (evE c cf n l1 cm.elt σ).bind _ = _
  rw [he]; rfl
theorem cmpL_rngE {c : Cfg} {cf : CF} {lf : Loc} {cm : CM} {m k f : Nat} (h : m ≤ k) : cmpL c cf n (.rng m) lf cm (f + 1) k σ = some ([], σ) := by
  show (some (bif Nat.ble m k then none else some (V.int k))).bind (fun o => o.elim (some ([], σ)) (cmT c cf n lf cm (cmpL c cf n (.rng m) lf cm f (k + 1)) σ)) = _
  rw [Nat.ble_eq_true_of_le h]; rfl
theorem cmpL_rng {c : Cfg} {cf : CF} {lf : Loc} {cm : CM} {m k f : Nat} (h : k < m) : cmpL c cf n (.rng m) lf cm (f + 1) k σ = cmT c cf n lf cm (cmpL c cf n (.rng m) lf cm f (k + 1)) σ (.int k) := by
  show (some (bif Nat.ble m k then none else some (V.int k))).bind (fun o => o.elim (some ([], σ)) (cmT c cf n lf cm (cmpL c cf n (.rng m) lf cm f (k + 1)) σ)) = _
  rw [show Nat.ble m k = false from Bool.eq_false_iff.mpr fun e => Nat.not_lt.mpr (Nat.le_of_ble_eq_true e) h]; rfl
theorem forms1 {m : Nat} (j : Nat) : ∀ {k f : Nat} {σ : H}, k + j = m → j < f → Deck σ D c0 → ∃ rs raw σ', cmpL cfg (callN cfg (d + 2)) (n + 20) (.rng m) [(82, .ref D)] cmF1 f k σ = some (rs, σ') ∧ Deck σ' D c0 ∧ Ext2 D c0 σ σ' ∧ TupsAt σ' rs raw ∧ raw.length = j := by
  induction j with
  | zero =>
    intro k f σ hk hf dk
    obtain ⟨f, rfl⟩ : ∃ g, f = g + 1 := ⟨f - 1, by omega⟩
    exact ⟨[], [], σ, cmpL_rngE (by omega), dk, fun _ _ _ _ h => h, .nil, rfl⟩
  | succ j ih =>
    intro k f σ hk hf dk
    obtain ⟨f, rfl⟩ : ∃ g, f = g + 1 := ⟨f - 1, by omega⟩
    obtain ⟨σ1, r1, a1, _, _, a4, a5⟩ := dr_ev (d := d) (n := n + 14) (l := [(98, .int k), (82, .ref D)]) dk rfl 2 (by decide) (by decide)
    obtain ⟨σ2, r2, b1, _, _, b4, b5⟩ := dr_ev (d := d) (n := n + 15) (l := [(98, .int k), (82, .ref D)]) a4 rfl 12 (by decide) (by decide)
    have dk3 : Deck (σ2 ++ [.tup [.bool (r1 == 0), .int r2]]) D c0 := b4.kp (Kp.app _ _)
    obtain ⟨rs, raw, σ3, c1, c2, c3, c4, c5⟩ := ih (k := k + 1) (f := f) (by omega) (by omega) dk3
    refine ⟨.ref σ2.length :: rs, (r1 == 0, r2) :: raw, σ3, ?_, c2, (a5.trans b5).trans ((Ext2.of (Kp.app _ _)).trans c3), .cons (dk3.tup c3 _ _ (at_end _ _)) c4, congrArg Nat.succ c5⟩
    rw [cmpL_rng (by omega), cmT_X (l1 := [(98, .int k), (82, .ref D)]) rfl rfl (ev_tup (n := n + 19) (evL_cons (ev_eqH (n := n + 18) a1 (ev_int (n := n + 17) 0)) (evL_cons b1 rfl)) rfl), c1]
    rfl
noncomputable def fold1 (f : Bool × Int) : Bool × Int := (f.1, bif f.1 then f.2.fmod 6 else f.2.fmod 4)
theorem fold1_ok (f : Bool × Int) : okF (fold1 f) := by
  obtain ⟨b, w⟩ := f
  cases b with
  | true => exact fmod_in w 6 (by decide)
  | false => exact fmod_in w 4 (by decide)
theorem cmF2_elt {cf : CF} (f : Bool × Int) : evE cfg cf (n + 20) [(87, .int f.2), (97, .bool f.1)] cmF2.elt σ = some (.ref σ.length, σ ++ [.tup [.bool (fold1 f).1, .int (fold1 f).2]]) := by
  obtain ⟨b, w⟩ := f
  cases b with
  | true =>
    show _ = some (V.ref σ.length, σ ++ [O.tup [.bool true, .int (w.fmod 6)]])
    kernel_rfl
  | false =>
    show _ = some (V.ref σ.length, σ ++ [O.tup [.bool false, .int (w.fmod 4)]])
    kernel_rfl
theorem forms2 {cf : CF} {j : Nat} {a : Addr} (rest : List V) : ∀ {done : List V} {raw : List (Bool × Int)} {f : Nat} {σ : H}, rest.length < f → at? σ j = some (.list (done ++ rest)) → TupsAt σ rest raw → ∃ rs σ', cmpL cfg cf (n + 20) (.lst j a) [] cmF2 f done.length σ = some (rs, σ') ∧ Kp σ σ' ∧ TupsAt σ' rs (raw.map fold1) := by
  induction rest with
  | nil =>
    intro done raw f σ hf hj hT
    cases hT
    obtain ⟨f, rfl⟩ : ∃ g, f = g + 1 := ⟨f - 1, by omega⟩
    rw [List.append_nil] at hj
    exact ⟨[], σ, cmpL_end hj, Kp.refl _, .nil⟩
  | cons x rest ih =>
    intro done raw f σ hf hj hT
    obtain ⟨f, rfl⟩ : ∃ g, f = g + 1 := ⟨f - 1, by omega⟩
    cases hT with
    | @cons t fm _ fs ht hts =>
    have k0 : Kp σ (σ ++ [.tup [.bool (fold1 fm).1, .int (fold1 fm).2]]) := Kp.app _ _
    obtain ⟨rs, σ', h1, h2, h3⟩ := ih (done := done ++ [.ref t]) (f := f) (Nat.lt_of_succ_lt_succ hf) (k0 _ _ (by rw [← snocE]; exact hj)) (hts.kp k0)
    rw [snocL] at h1
    refine ⟨.ref σ.length :: rs, σ', ?_, k0.trans h2, .cons (h2 _ _ (at_end _ _)) h3⟩
    rw [cmpL_step hj, cmT_X (tgt_tup ht) rfl (cmF2_elt fm), h1]
    rfl
theorem cmW_step {cf : CF} {t : Nat} {f : Bool × Int} {g : H → RL} (ht : at? σ t = some (.tup [.bool f.1, .int f.2])) : cmT cfg cf (n + 20) [] cmW g σ (.ref t) = bif f.1 then g σ else (g σ).map fun z => (V.int f.2 :: z.1, z.2) := by
  unfold cmT
  rw [show cmW.is = [97, 87] from rfl, tgt_tup ht]
  obtain ⟨b, w⟩ := f
  cases b <;> rfl
theorem waits_eq {cf : CF} {j : Nat} {a : Addr} (rest : List V) : ∀ {done : List V} {fs : List (Bool × Int)} {f : Nat}, rest.length < f → at? σ j = some (.list (done ++ rest)) → TupsAt σ rest fs → ∃ rs, cmpL cfg cf (n + 20) (.lst j a) [] cmW f done.length σ = some (rs, σ) ∧ (rs.length : Int) = wF fs ∧ rs.length ≤ rest.length := by
  induction rest with
  | nil =>
    intro done fs f hf hj hT
    cases hT
    obtain ⟨f, rfl⟩ : ∃ g, f = g + 1 := ⟨f - 1, by omega⟩
    rw [List.append_nil] at hj
    exact ⟨[], cmpL_end hj, rfl, Nat.le_refl _⟩
  | cons x rest ih =>
    intro done fs f hf hj hT
    obtain ⟨f, rfl⟩ : ∃ g, f = g + 1 := ⟨f - 1, by omega⟩
    cases hT with
    | @cons t fm _ fs ht hts =>
    obtain ⟨rs, h1, h2, h3⟩ := ih (done := done ++ [.ref t]) (f := f) (Nat.lt_of_succ_lt_succ hf) (by rw [← snocE]; exact hj) hts
    rw [snocL] at h1
    have e := cmpL_step (c := cfg) (cf := cf) (n := n + 20) (lf := []) (cm := cmW) (a := a) (f := f) hj
    rw [cmW_step ht, h1] at e
    obtain ⟨b, w⟩ := fm
    cases b with
    | true => exact ⟨rs, e, h2.trans (Int.add_zero _).symm, Nat.le_succ_of_le h3⟩
    | false => exact ⟨.int w :: rs, e, by show ((rs.length + 1 : Nat) : Int) = wF fs + 1; omega, Nat.succ_le_succ h3⟩
end
noncomputable def mkM : List MS := [.asgN 107 (.call (.cst (.val 779)) [.call (.cst (.val 131)) []]), .expr (.meth (.nm 107) 101 [.cst (.int 1), .call (.cst (.val 426)) [.cst (.int 2)]]), .expr (.meth (.nm 107) 101 [.cst (.int 2), .call (.cst (.val 426)) [.cst (.int 3)]]), .asgN 108 (.call (.cst (.val 1090)) [.nm 107, .cst (.int 5000), .call (.cst (.val 922)) [.cst .none]])]
noncomputable def mkV : List MS := [.expr (.meth (.nm 105) 42 [.call (.cst (.bi .reprB)) [.meth (.nm 108) 102 [.call (.cst (.val 1141)) [.nm 92, .nm 83, .nm 93]]]]), .expr (.meth (.nm 106) 42 [.attr (.nm 108) 51])]
noncomputable def wl : Loc := [(92, .opq 1), (93, .opq 2), (105, .opq 3), (106, .opq 4), (103, .opq 5), (104, .opq 6)]
noncomputable def runW (d n : Nat) : R3 := exB cDu (callO ov0 cDu (d + 10)) (n + 20) ((83, .opq 0) :: wl) mkM []
noncomputable def whp : H := [.inst 131 [(1, .ref 1), (2, .ref 2)], .list [], .dict [], oGl (.ref 0) (.ref 4), .dict [(2, .ref 6), (1, .ref 5)], oCp (.int 2) (.str (Str.ofString "call-with-values")), oCp (.int 3) (.str (Str.ofString "%call/cc")), oBl .none, oMo (.ref 3) (.ref 7) (.ref 9) (.int 0) (.int 0) (.int 0) (.int 0) .none .none .none (.ref 10) .none, .dict [], .list []]
theorem wr_m (d n : Nat) : runW d n = some (.next, (108, .ref 8) :: (107, .ref 3) :: (83, .opq 0) :: wl, whp) := by kernel_rfl
noncomputable def rpL (v : V) : Str := (rep1 v).getD Str.empty
section
variable {cf : CF} {d n i j : Nat} {l : Loc} {σ σ1 σ' : H} {v : V} {vs xs : List V}
theorem ev_meth {o : ME} {a : Nat} {es : List ME} {f : V × List V} {r : Option (V × H)} (ho : evE cfg cf n l o σ = some (v, σ)) (hm : getM cfg.T v a σ 42 39 = some f) (hes : evL (evE cfg cf n l) es σ = some (vs, σ1)) (hr : cf f.1 (f.2 ++ vs) σ1 = r) : evE cfg cf (n + 1) l (.meth o a es) σ = r := by
  rw [evE_meth, ho]
  show (getM cfg.T v a σ 42 39).bind (fun f => (evL (evE cfg cf n l) es σ).bind fun q => cf f.1 (f.2 ++ q.1) q.2) = _
  rw [hm]
  show (evL (evE cfg cf n l) es σ).bind _ = _
  rw [hes]; exact hr
theorem ex_expr {e : ME} (h : evE cfg cf n l e σ = some (v, σ')) (hd : dropV v = true) : exS cfg cf (n + 1) l (.expr e) σ = some (.next, l, σ') := by
  rw [exS_expr, h]
  show gd (dropV v) _ = _
  rw [hd]; rfl
theorem getM_list (a : Nat) (ha : a = 42) (h : at? σ i = some (.list xs)) : getM cfg.T (.ref i) a σ 42 39 = some (.bi .append, [.ref i]) := by
  subst ha
  show (at? σ i).bind _ = _
  rw [h]; rfl
theorem app_eq (h : at? σ i = some (.list xs)) (hz : xs.length ≤ 10000) : callN cfg (d + 1) (.bi .append) [.ref i, v] σ = some (.none, setAt σ i (.list (xs ++ [v]))) := by
  show (listAt σ i).bind (fun xs => gd (Nat.ble xs.length 10000) (some (V.none, setAt σ i (.list (xs ++ [v]))))) = _
  rw [listAt_of h]
  show gd (Nat.ble xs.length 10000) _ = _
  rw [Nat.ble_eq_true_of_le hz]; rfl
theorem repr_eq (hv : okR v) (h : at? σ i = some (.list [v])) : callN cfg (d + 1) (.bi .reprB) [.ref i] σ = some (.str (rpL v), σ) := by
  show ((listAt σ i).bind fun xs => (arg1 xs).bind fun u => rep1 u.1).map (fun t => (V.str t, σ)) = _
  rw [listAt_of h]
  cases hv <;> rfl
end
structure TN where
  F : Nat
  e : V
  T : Nat
  P : Nat
  few : Int
  more : Int
noncomputable def nuW (t : TN) (n : Int) : List V := [.int n, .ref t.F, t.e, .ref t.T, .ref t.P, .int t.few, .int t.more]
noncomputable def WN (t : TN) (l : Loc) : Prop := LocS ⟨[], nuW t 0, 0⟩ wl l
theorem wr_run {d N n : Nat} {t : TN} {l : Loc} {σ : H} (hl : WN t l) : ∃ l' σ', exB cfg (callN cfg (d + 10)) (N + 20) ((83, .int n) :: l) mkM σ = some (.next, l', σ') ∧ LocS ⟨[], nuW t n, σ.length⟩ ((108, .ref 8) :: (107, .ref 3) :: (83, .opq 0) :: wl) l' ∧ HR ⟨[], nuW t n, σ.length⟩ σ whp σ' := by
  have hl2 : LocS ⟨[], nuW t n, σ.length⟩ ((83, .opq 0) :: wl) ((83, .int n) :: l) := (LocS.next (R' := ⟨[], nuW t n, σ.length⟩) (l2 := wl) hl ⟨⟨_, rfl, rfl⟩, ⟨_, rfl, rfl⟩, ⟨_, rfl, rfl⟩, ⟨_, rfl, rfl⟩, ⟨_, rfl, rfl⟩, ⟨_, rfl, rfl⟩, trivial⟩).cons 83 (.opq 0)
  obtain ⟨⟨z1, z2, z3⟩, g1, g2, g3, g4⟩ := small_block (e := 0) (s := []) (σ := σ) rfl (noRest (ix := []) (nu := nuW t n) rfl (Nat.zero_le _) (fun _ h => by cases h) fun _ h => by cases h) (fun _ => ov0_ok) at0 hl2 (wr_m d N)
  have g2 : z1 = .next := g2
  rw [g2] at g1
  exact ⟨z2, z3, g1, g3, g4⟩
theorem turn_eq {d N n : Nat} {t : TN} {l : Loc} {σ : H} {ts sT sP : List V} {fs : List (Bool × Int)} (hl : WN t l) (hF : at? σ t.F = some (.list ts)) (hts : TupsAt σ ts fs) (hok : ∀ f ∈ fs, okF f) (hlen : fs.length ≤ 3) (hn : n ≤ 6) (he : okR t.e) (hT : at? σ t.T = some (.list sT)) (hP : at? σ t.P = some (.list sP)) (hTP : t.T ≠ t.P) (zT : sT.length ≤ 100) (zP : sP.length ≤ 100) :
    ∃ l' σ', exB cfg (callN cfg (d + 10)) (N + 30) ((83, .int n) :: l) (mkM ++ mkV) σ = some (.next, l', σ') ∧ WN t l' ∧ at? σ' t.T = some (.list (sT ++ [.str (rpL (gN fs t.e n))])) ∧ at? σ' t.P = some (.list (sP ++ [.int (max 1 (pkN fs n))])) ∧ ∀ i o, i ≠ t.T → i ≠ t.P → at? σ i = some o → at? σ' i = some o := by
  obtain ⟨l1, σ4, a1, a2, a3⟩ := wr_run (d := d) (N := N + 10) (n := n) (σ := σ) hl
  have k4 : Kp σ σ4 := fun i o h => a3.ext i o (fun e => by cases e) h
  obtain ⟨σ5, root, b1, b2, b3⟩ := made_eq (d := d + 5) (σ := σ4) (k4 _ _ hF) (hts.kp k4) hok hlen hn (ending := t.e)
  have k5 := k4.trans b2
  have hm4 : at? σ4 (σ.length + 8) = some (Mo ⟨σ.length + 3, σ.length + 7, σ.length + 9, 0, 0, 0⟩ 0 .none .none .none (.ref (σ.length + 10)) .none) := a3.obj 8 _ rfl
  obtain ⟨σ6, vi, c1, c2, c3⟩ := run_eq (b2 _ _ hm4) b3 (a := ⟨σ.length + 4, σ.length + 5, σ.length + 6, .ref (σ.length + 0), _, _⟩) ⟨b2 _ _ (a3.obj 7 _ rfl), b2 _ _ (a3.obj 3 _ rfl), b2 _ _ (a3.obj 4 _ rfl), b2 _ _ (a3.obj 5 _ rfl), b2 _ _ (a3.obj 6 _ rfl)⟩ he.sm hlen hn d
  obtain ⟨E6, u, nd, sc, pr, vi', m6, hD, _⟩ := c3
  have lt : ∀ {i o}, at? σ i = some o → i < σ.length := fun h => at_lt h
  have k6 : ∀ i o, at? σ i = some o → at? σ6 i = some o := fun i o h => E6 i o (fun e => by have := lt h; have := Option.some.inj e; omega) (k5 i o h)
  have hT6 := k6 _ _ hT
  have hP7 : at? (setAt σ6 t.T (.list (sT ++ [.str (rpL (gN fs t.e n))]))) t.P = some (.list sP) := by rw [set_ne hTP]; exact k6 _ _ hP
  have hm7 : at? (setAt σ6 t.T (.list (sT ++ [.str (rpL (gN fs t.e n))]))) (σ.length + 8) = _ := (set_ne (by have := lt hT; omega)).trans m6
  have e5 : exS cfg (callN cfg (d + 10)) (N + 25) l1 (.expr (.meth (.nm 105) 42 [.call (.cst (.bi .reprB)) [.meth (.nm 108) 102 [.call (.cst (.val 1141)) [.nm 92, .nm 83, .nm 93]]]])) σ4 = some (.next, l1, setAt σ6 t.T (.list (sT ++ [.str (rpL (gN fs t.e n))]))) :=
    ex_expr (n := N + 24) (ev_meth (n := N + 23) (ev_nm (n := N + 22) (a2 105 _ rfl)) (getM_list 42 rfl (k4 _ _ hT)) (evL_cons (ev_call (n := N + 21) (evL_cons (ev_meth (n := N + 21) (ev_nm (n := N + 20) (a2 108 _ rfl)) (show (at? σ4 (σ.length + 8)).bind (getMO cfg.T 102 42 39 (σ.length + 8)) = some (.val 975, [.ref (σ.length + 8)]) by rw [hm4]; rfl)
      (evL_cons (ev_call (n := N + 19) (evL_cons (ev_nm (n := N + 19) (a2 92 _ rfl)) (evL_cons (ev_nm (n := N + 19) (a2 83 _ rfl)) (evL_cons (ev_nm (n := N + 19) (a2 93 _ rfl)) rfl))) rfl b1) rfl) c1) rfl) rfl (repr_eq (he.gN fs n) c2)) rfl) (app_eq hT6 (by omega))) rfl
  have e6 : exS cfg (callN cfg (d + 10)) (N + 24) l1 (.expr (.meth (.nm 106) 42 [.attr (.nm 108) 51])) (setAt σ6 t.T (.list (sT ++ [.str (rpL (gN fs t.e n))]))) = some (.next, l1, setAt (setAt σ6 t.T (.list (sT ++ [.str (rpL (gN fs t.e n))]))) t.P (.list (sP ++ [.int u.D]))) :=
    ex_expr (n := N + 23) (ev_meth (n := N + 22) (ev_nm (n := N + 21) (a2 106 _ rfl)) (getM_list 42 rfl hP7) (evL_cons (v := .int u.D) (show (evE cfg (callN cfg (d + 10)) (N + 21) l1 (.nm 108) _).bind (fun p => (getA cfg.T p.1 51 p.2).map fun u => (u, p.2)) = _ by
      rw [ev_nm (n := N + 20) (a2 108 _ rfl)]
      show ((at? _ (σ.length + 8)).bind (getO cfg.T 51)).map _ = _
      rw [hm7]; rfl) rfl) (app_eq hP7 (by omega))) rfl
  refine ⟨l1, setAt (setAt σ6 t.T (.list (sT ++ [.str (rpL (gN fs t.e n))]))) t.P (.list (sP ++ [.int u.D])), ?_, LocS.next a2 ⟨⟨_, rfl, rfl⟩, ⟨_, rfl, rfl⟩, ⟨_, rfl, rfl⟩, ⟨_, rfl, rfl⟩, ⟨_, rfl, rfl⟩, ⟨_, rfl, rfl⟩, trivial⟩, by rw [set_ne hTP.symm]; exact set_eq hT6, by rw [← hD]; exact set_eq hP7, fun i o x y h => ?_⟩
  · have a1 : exB cfg (callN cfg (d + 10)) (N + 25 + 1 + mkM.length) ((83, .int n) :: l) mkM σ = _ := a1
    refine (exB_app (n := N + 25) (b := mkV) mkM a1).trans ?_
    unfold mkV
    rw [exB_step (n := N + 25) e5, exB_step (n := N + 24) e6]
    rfl
  · rw [set_ne (Ne.symm y), set_ne (Ne.symm x)]
    exact k6 i o h
noncomputable def me4 : ME := .tup [.call (.cst (.val 1113)) [.nm 82, .list [.cst (.bool false), .cst (.int 9)]], .bin .Add (.cst (.int 1)) (dr 3)]
noncomputable def me5 : ME := .tup [.bin .Add (.bin .Add (.nm 103) (.cst (.int 1))) (dr 3), .list [], .list []]
section
variable {d n D c0 : Nat} {l : Loc} {σ : H}
theorem Deck.lt {σ : H} {D c0 : Nat} (dk : Deck σ D c0) : D < σ.length ∧ c0 < σ.length := by
  obtain ⟨x, hx⟩ := dk.dk
  obtain ⟨cs, hc, _⟩ := dk.cl
  exact ⟨at_lt hx, at_lt hc⟩
theorem one_eq {it : Nat} (dk : Deck σ D c0) (hi : at? σ it = some (.list [.bool false, .int 9])) (n1 : it ≠ D) (n2 : it ≠ c0) : ∃ σ' e, callN cfg (d + 3) (.val 1113) [.ref D, .ref it] σ = some (e, σ') ∧ okR e ∧ Deck σ' D c0 ∧ Ext2 D c0 σ σ' := by
  obtain ⟨σ1, r, a1, a2, a3, a4, a5⟩ := draw_eq (d := d) dk (m := 2) (by decide) (by decide)
  have hi1 := a5 _ _ n1 n2 hi
  have len : callN cfg (d + 2) (.bi .len) [.ref it] σ = some (.int 2, σ) := by
    show (listAt σ it).bind (fun xs => gd (Nat.ble xs.length 10000) (some (V.int xs.length, σ))) = _
    rw [listAt_of hi]; rfl
  have h : ∀ v, subO r (.list [.bool false, .int 9]) = some v → callN cfg (d + 3) (.val 1113) [.ref D, .ref it] σ = some (v, σ1) := fun v hv => by
    have f : callN cfg (d + 3) (.val 1113) [.ref D, .ref it] σ = bodyR (exB cfg (callN cfg (d + 2)) (99999 + 1) [(85, .ref it), (82, .ref D)] [.ret (.sub (.nm 85) (.call (.cst (.val 1106)) [.nm 82, .call (.cst (.bi .len)) [.nm 85]]))] σ) := rfl
    rw [f, exB_ret (n := 99999) (ex_ret (n := 99998) (ev_sub (n := 99997) (ev_nm (n := 99996) rfl) (ev_call (n := 99995) (evL_cons (ev_nm (n := 99995) rfl) (evL_cons (ev_call (n := 99994) (evL_cons (ev_nm (n := 99994) rfl) rfl) rfl len) rfl)) rfl a1) hi1 hv))]
    rfl
  have e : r = 0 ∨ r = 1 := by omega
  rcases e with rfl | rfl
  · exact ⟨σ1, _, h _ rfl, .f, a4, a5⟩
  · exact ⟨σ1, _, h _ rfl, .n, a4, a5⟩
theorem s4 (h : lk l 82 = some (.ref D)) (dk : Deck σ D c0) : ∃ σ' e r t, evE cfg (callN cfg (d + 3)) (n + 20) l me4 σ = some (.ref t, σ') ∧ at? σ' t = some (.tup [e, .int (1 + r)]) ∧ okR e ∧ 0 ≤ r ∧ r < 3 ∧ Deck σ' D c0 ∧ Ext2 D c0 σ σ' := by
  have k0 : Kp σ (σ ++ [.list [.bool false, .int 9]]) := Kp.app _ _
  obtain ⟨l1, l2⟩ := dk.lt
  obtain ⟨σ1, e, a1, a2, a3, a4⟩ := one_eq (d := d) (dk.kp k0) (it := σ.length) (at_end _ _) (by omega) (by omega)
  obtain ⟨σ2, r, b1, b2, b3, b4, b5⟩ := dr_ev (d := d + 1) (n := n + 14) a3 h 3 (by decide) (by decide)
  have e1 : evE cfg (callN cfg (d + 3)) (n + 18) l (.list [.cst (.bool false), .cst (.int 9)]) σ = some (.ref σ.length, σ ++ [.list [.bool false, .int 9]]) := rfl
  have e2 : evE cfg (callN cfg (d + 3)) (n + 20) l me4 σ = some (.ref σ2.length, σ2 ++ [.tup [e, .int (1 + r)]]) := ev_tup (n := n + 19) (evL_cons (ev_call (n := n + 17) (evL_cons (ev_nm (n := n + 17) h) (evL_cons e1 rfl)) rfl a1) (evL_cons (ev_bin (n := n + 18) (ev_int (n := n + 17) 1) b1 (z := 1 + r) rfl) rfl)) rfl
  exact ⟨σ2 ++ [.tup [e, .int (1 + r)]], e, r, σ2.length, e2, at_end _ _, a2, b2, b3, b4.kp (Kp.app _ _), ((Ext2.of k0).trans (a4.trans b5)).trans (.of (Kp.app _ _))⟩
theorem s5 {few : Int} (h : lk l 82 = some (.ref D)) (hf : lk l 103 = some (.int few)) (dk : Deck σ D c0) :
    ∃ σ' r T P t, evE cfg (callN cfg (d + 2)) (n + 20) l me5 σ = some (.ref t, σ') ∧ at? σ' t = some (.tup [.int (few + 1 + r), .ref T, .ref P]) ∧ 0 ≤ r ∧ r < 3 ∧ Ext2 D c0 σ σ' ∧ T ≠ P ∧ at? σ' T = some (.list []) ∧ at? σ' P = some (.list []) ∧ (∀ i o, at? σ i = some o → i ≠ T ∧ i ≠ P) := by
  obtain ⟨σ2, r, b1, b2, b3, b4, b5⟩ := dr_ev (d := d) (n := n + 14) dk h 3 (by decide) (by decide)
  have e1 : (σ2 ++ [O.list []]).length = σ2.length + 1 := List.length_append
  have e0 : ∀ τ, evE cfg (callN cfg (d + 2)) (n + 19) l (.list []) τ = some (.ref τ.length, τ ++ [.list []]) := fun τ => rfl
  have e2 : evE cfg (callN cfg (d + 2)) (n + 20) l me5 σ = some (.ref (σ2 ++ [O.list []] ++ [O.list []]).length, σ2 ++ [.list []] ++ [.list []] ++ [.tup [.int (few + 1 + r), .ref σ2.length, .ref (σ2 ++ [O.list []]).length]]) := ev_tup (n := n + 19) (evL_cons (ev_bin (n := n + 18) (ev_bin (n := n + 17) (ev_nm (n := n + 16) hf) (ev_int (n := n + 16) 1) (z := few + 1) rfl) b1 (z := few + 1 + r) rfl) (evL_cons (e0 _) (evL_cons (e0 _) rfl))) rfl
  refine ⟨σ2 ++ [.list []] ++ [.list []] ++ [.tup [.int (few + 1 + r), .ref σ2.length, .ref (σ2 ++ [O.list []]).length]], r, σ2.length, (σ2 ++ [O.list []]).length, _, e2, at_end _ _, b2, b3, b5.trans (.of ((Kp.app _ _).trans ((Kp.app _ _).trans (Kp.app _ _)))), by omega, at_app (at_app (at_end _ _)), at_app (at_end _ _), fun i o hi => ?_⟩
  have : i < σ2.length := by
    by_cases h1 : i = D
    · rw [h1]; exact b4.lt.1
    · by_cases h2 : i = c0
      · rw [h2]; exact b4.lt.2
      · exact at_lt (b5 i o h1 h2 hi)
  omega
end
noncomputable def s6M : MS := .forL [83] (.list [.nm 103, .nm 104]) (mkM ++ mkV)
section
variable {d : Nat} {t : TN} {l : Loc} {σ : H} {ts : List V} {fs : List (Bool × Int)} {few more : Nat}
theorem list2 {cf : CF} {n : Nat} {x y : V} (h1 : lk l 103 = some x) (h2 : lk l 104 = some y) : evE cfg cf (n + 2) l (.list [.nm 103, .nm 104]) σ = some (.ref σ.length, σ ++ [.list [x, y]]) := ev_list (evL_cons (ev_nm h1) (evL_cons (ev_nm h2) rfl)) rfl
theorem s6 (hl : WN t l) (ef : t.few = few) (em : t.more = more) (hF : at? σ t.F = some (.list ts)) (hts : TupsAt σ ts fs) (hok : ∀ f ∈ fs, okF f) (hlen : fs.length ≤ 3) (hn : few ≤ 6) (hm : more ≤ 6) (he : okR t.e) (hT : at? σ t.T = some (.list [])) (hP : at? σ t.P = some (.list [])) (hTP : t.T ≠ t.P) (hFT : t.F ≠ t.T) (hFP : t.F ≠ t.P) :
    ∃ l' σ', exS cfg (callN cfg (d + 10)) 1000 l s6M σ = some (.next, l', σ') ∧ WN t l' ∧ at? σ' t.T = some (.list [.str (rpL (gN fs t.e few)), .str (rpL (gN fs t.e more))]) ∧ at? σ' t.P = some (.list [.int (max 1 (pkN fs few)), .int (max 1 (pkN fs more))]) ∧ ∀ i o, i ≠ t.T → i ≠ t.P → at? σ i = some o → at? σ' i = some o := by
  have k0 : Kp σ (σ ++ [.list [.int few, .int more]]) := Kp.app _ _
  have lT := at_lt hT
  have lP := at_lt hP
  obtain ⟨l1, σ1, a1, a2, a3, a4, a5⟩ := turn_eq (d := d) (N := 968) hl (k0 _ _ hF) (hts.kp k0) hok hlen hn he (k0 _ _ hT) (k0 _ _ hP) hTP (by decide) (by decide)
  have nt : ∀ i xs, at? σ i = some (.tup xs) → i ≠ t.T ∧ i ≠ t.P := fun i xs h => And.intro (fun e => by rw [e, hT] at h; cases h) (fun e => by rw [e, hP] at h; cases h)
  have k1 : ∀ i o, i ≠ t.T → i ≠ t.P → at? σ i = some o → at? σ1 i = some o := fun i o x y h => a5 i o x y (k0 i o h)
  have hj := a5 σ.length _ (by omega) (by omega) (at_end σ (O.list [.int few, .int more]))
  obtain ⟨l2, σ2, b1, b2, b3, b4, b5⟩ := turn_eq (d := d) (N := 967) a2 (k1 _ _ hFT hFP hF) (hts.to fun i xs h => k1 _ _ (nt i xs h).1 (nt i xs h).2 h) hok hlen hm he a3 a4 hTP (Nat.le_of_ble_eq_true rfl) (Nat.le_of_ble_eq_true rfl)
  refine ⟨l2, σ2, ?_, b2, b3, b4, fun i o x y h => b5 i o x y (k1 i o x y h)⟩
  have e : exS cfg (callN cfg (d + 10)) 1000 l s6M σ = exI cfg (callN cfg (d + 10)) 999 l [83] σ.length 0 (mkM ++ mkV) (σ ++ [.list [.int few, .int more]]) := by
    show (evE cfg (callN cfg (d + 10)) (997 + 2) l (.list [.nm 103, .nm 104]) σ).bind (fun p => (refV p.1).bind fun j => (listAt p.2 j.1).bind fun _ => exI cfg (callN cfg (d + 10)) 999 l [83] j.1 0 (mkM ++ mkV) p.2) = _
    rw [list2 (x := .int few) (y := .int more) (by rw [← ef]; exact hl 103 _ rfl) (by rw [← em]; exact hl 104 _ rfl)]
    show (listAt (σ ++ [O.list [.int few, .int more]]) σ.length).bind _ = _
    rw [listAt_of (at_end _ _)]; rfl
  rw [e]
  exact (exI_step (n := 998) (done := []) (l0 := (83, .int few) :: l) (at_end _ _) rfl a1).trans ((exI_step (n := 997) (done := [V.int few]) (rest := []) (l0 := (83, .int more) :: l1) hj rfl b1).trans (exI_end (n := 996) (done := [.int few, .int more]) (b5 _ _ (by omega) (by omega) hj) (Nat.le_of_ble_eq_true rfl)))
noncomputable def cmD : CM := ⟨.call (.cst (.bi .reprB)) [.list [.call (.cst (.val 1148)) [.nm 92, .nm 83, .nm 93]]], [83], none⟩
theorem due_turn {n : Nat} {g : H → RL} (hF : at? σ t.F = some (.list ts)) (hts : TupsAt σ ts fs) (hok : ∀ f ∈ fs, okF f) (hlen : fs.length ≤ 3) (hn : few ≤ 6) (he : okR t.e) : cmT cfg (callN cfg (d + 3)) (n + 20) [(92, .ref t.F), (93, t.e)] cmD g σ (.int few) = (g (σ ++ [.list [gN fs t.e few]])).map fun z => (V.str (rpL (gN fs t.e few)) :: z.1, z.2) :=
  cmT_X (l1 := [(83, .int few), (92, .ref t.F), (93, t.e)]) rfl rfl (ev_call (n := n + 18) (evL_cons (ev_list (n := n + 18) (evL_cons (ev_call (n := n + 16) (evL_cons (ev_nm (n := n + 16) rfl) (evL_cons (ev_nm (n := n + 16) rfl) (evL_cons (ev_nm (n := n + 16) rfl) rfl))) rfl (due_eq (d := d) hts hok hF hlen he hn)) rfl) rfl) rfl) rfl (repr_eq (he.gN fs few) (at_end _ _)))
theorem dues_eq {n : Nat} (h103 : lk l 103 = some (.int few)) (h104 : lk l 104 = some (.int more)) (hF : at? σ t.F = some (.list ts)) (hts : TupsAt σ ts fs) (hok : ∀ f ∈ fs, okF f) (hlen : fs.length ≤ 3) (hn : few ≤ 6) (hm : more ≤ 6) (he : okR t.e) :
    ∃ σ', cmpE cfg (callN cfg (d + 3)) (n + 20) l [(92, .ref t.F), (93, t.e)] (.lst (.list [.nm 103, .nm 104])) cmD 5 σ = some ([.str (rpL (gN fs t.e few)), .str (rpL (gN fs t.e more))], σ') ∧ Kp σ σ' := by
  have k0 : Kp σ (σ ++ [.list [.int few, .int more]]) := Kp.app _ _
  have k1 : Kp σ (σ ++ [.list [.int few, .int more]] ++ [.list [gN fs t.e few]]) := k0.trans (Kp.app _ _)
  have hj : at? (σ ++ [O.list [V.int (few : Int), V.int (more : Int)]]) σ.length = some (.list [.int few, .int more]) := at_end _ _
  refine ⟨σ ++ [.list [.int few, .int more]] ++ [.list [gN fs t.e few]] ++ [.list [gN fs t.e more]], ?_, k1.trans (Kp.app _ _)⟩
  show (evE cfg (callN cfg (d + 3)) (n + 18 + 2) l (.list [.nm 103, .nm 104]) σ).bind (fun p => (refV p.1).bind fun j => (listAt p.2 j.1).bind fun _ => cmpL cfg (callN cfg (d + 3)) (n + 20) (.lst j.1 0) [(92, .ref t.F), (93, t.e)] cmD 5 0 p.2) = _
  rw [list2 h103 h104]
  show (listAt (σ ++ [O.list [.int few, .int more]]) σ.length).bind _ = _
  rw [listAt_of hj]
  exact (cmpL_step (f := 4) (done := []) (rest := [V.int more]) hj).trans ((due_turn (k0 _ _ hF) (hts.kp k0) hok hlen hn he).trans ((congrArg (Option.map _) ((cmpL_step (f := 3) (done := [V.int few]) (rest := []) (at_app hj)).trans ((due_turn (k1 _ _ hF) (hts.kp k1) hok hlen hm he).trans
    (congrArg (Option.map _) (cmpL_end (f := 2) (done := [V.int few, V.int more]) (at_app (at_app hj))))))).trans rfl))
end
theorem rpL_ok {v : V} (h : okR v) : PyData.strOk (rpL v) = true := by cases h <;> decide +kernel
theorem deep_eq (fs : List (Bool × Int)) {few more : Nat} (h1 : 1 ≤ few) (h2 : few < more) : max 1 (pkN fs more) - max 1 (pkN fs few) = wF fs * ((more : Int) - (few : Int)) := by
  obtain ⟨a, rfl⟩ : ∃ a, few = a + 1 := ⟨few - 1, by omega⟩
  obtain ⟨b, rfl⟩ : ∃ b, more = b + 1 := ⟨more - 1, by omega⟩
  have hp : ∀ n : Nat, max 1 (pkN fs (n + 1)) = (n : Int) * wF fs + max (pkF fs) (wF fs + 1) := fun n =>
    Int.max_eq_right (Int.le_trans (Int.le_trans (show (1 : Int) ≤ wF fs + 1 from Int.le_add_of_nonneg_left (wF_nn fs)) (Int.le_max_right _ _)) (Int.le_add_of_nonneg_left (Int.mul_nonneg (Int.natCast_nonneg n) (wF_nn fs))))
  rw [hp, hp, show ((b + 1 : Nat) : Int) - ((a + 1 : Nat) : Int) = (b : Int) - (a : Int) by omega, Int.mul_sub, Int.mul_comm (wF fs) b, Int.mul_comm (wF fs) a]
  omega
noncomputable def s9M : MS := .ret (.and (.cmp .Eq (.nm 105) (.nm 110)) (.cmp .Eq (.bin .Sub (.sub (.nm 106) (.cst (.int 1))) (.sub (.nm 106) (.cst (.int 0)))) (.bin .Mult (.nm 109) (.bin .Sub (.nm 104) (.nm 103)))))
section
variable {cf : CF} {n : Nat} {σ : H} {l : Loc}
theorem ev_and {a b : ME} (h1 : evE cfg cf n l a σ = some (.bool true, σ)) : evE cfg cf (n + 1) l (.and a b) σ = evE cfg cf n l b σ := by
  show (evE cfg cf n l a σ).bind (fun p => (truth p.1).bind fun t => bif t.1 then evE cfg cf n l b p.2 else some p) = _
  rw [h1]; rfl
theorem ev_eqS {T U : Nat} {a b : Str} (h105 : lk l 105 = some (.ref T)) (h110 : lk l 110 = some (.ref U)) (hT : at? σ T = some (.list [.str a, .str b])) (hU : at? σ U = some (.list [.str a, .str b])) (k1 : PyData.strOk a = true) (k2 : PyData.strOk b = true) : evE cfg cf (n + 2) l (.cmp .Eq (.nm 105) (.nm 110)) σ = some (.bool true, σ) := by
  show (evE cfg cf (n + 1) l (.nm 105) σ).bind (fun p => (evE cfg cf (n + 1) l (.nm 110) p.2).bind fun q => (cmpV cfg.T .Eq p.1 q.1 q.2).map fun v => (v, q.2)) = _
  rw [ev_nm h105]
  show (evE cfg cf (n + 1) l (.nm 110) σ).bind _ = _
  rw [ev_nm h110]
  show ((((listAt σ T).bind fun xs => (listAt σ U).bind fun ys => cmpL' .Eq xs ys).map V.bool).map fun v => (v, σ)) = _
  rw [listAt_of hT, listAt_of hU]
  show (((gd (PyData.strOk a && PyData.strOk b && PyData.strOk a && PyData.strOk b) (some (a == a && b == b))).map V.bool).map fun v => (v, σ)) = _
  rw [k1, k2, beq_self_eq_true, beq_self_eq_true]; rfl
theorem s9 {T P U few more : Nat} {e : V} {fs : List (Bool × Int)} (h103 : lk l 103 = some (.int few)) (h104 : lk l 104 = some (.int more)) (h105 : lk l 105 = some (.ref T)) (h106 : lk l 106 = some (.ref P)) (h109 : lk l 109 = some (.int (wF fs))) (h110 : lk l 110 = some (.ref U)) (he : okR e)
    (hT : at? σ T = some (.list [.str (rpL (gN fs e few)), .str (rpL (gN fs e more))])) (hU : at? σ U = some (.list [.str (rpL (gN fs e few)), .str (rpL (gN fs e more))])) (hP : at? σ P = some (.list [.int (max 1 (pkN fs few)), .int (max 1 (pkN fs more))])) (h1 : 1 ≤ few) (h2 : few < more) (h3 : more ≤ 6) :
    exS cfg cf (n + 30) l s9M σ = some (.ret (.bool true), l, σ) := by
  have q3 : opI .Mult (wF fs) ((more : Int) - (few : Int)) = some (wF fs * ((more : Int) - (few : Int))) := by
    show gd (decide (0 ≤ (more : Int) - (few : Int) ∧ (more : Int) - (few : Int) < 50000)) _ = _
    rw [decide_eq_true (by omega)]; rfl
  refine ex_ret (n := n + 29) ((ev_and (n := n + 28) (ev_eqS (n := n + 26) h105 h110 hT hU (rpL_ok (he.gN fs few)) (rpL_ok (he.gN fs more)))).trans ?_)
  rw [ev_eqH (n := n + 27) (ev_bin (n := n + 26) (ev_sub (n := n + 25) (ev_nm (n := n + 24) h106) (ev_int (n := n + 24) 1) hP (v := .int (max 1 (pkN fs more))) rfl) (ev_sub (n := n + 25) (ev_nm (n := n + 24) h106) (ev_int (n := n + 24) 0) hP (v := .int (max 1 (pkN fs few))) rfl) (z := max 1 (pkN fs more) - max 1 (pkN fs few)) rfl)
    (ev_bin (n := n + 26) (ev_nm (n := n + 25) h109) (ev_bin (n := n + 25) (ev_nm (n := n + 24) h104) (ev_nm (n := n + 24) h103) (z := (more : Int) - (few : Int)) rfl) q3), deep_eq fs h1 h2, beq_self_eq_true]
theorem wF_le (fs : List (Bool × Int)) : wF fs ≤ fs.length := by
  induction fs with
  | nil => exact Int.le_refl 0
  | cons f fs ih =>
    show wF fs + w1 f ≤ ((fs.length + 1 : Nat) : Int)
    have : w1 f ≤ 1 := by unfold w1; cases f.1 <;> decide
    omega
end
theorem swaps_cell {cm : CM} {K : Frag} {e : PySem.Expr} {y : Str} {p : Pos} {line : Nat} {env : Env} (he : chkD K NM env.scope.names cm e = true) (hk : env.scope.names.lookup y = some .cell) : swapsWith e (some (.Name y p)) line env = pure false :=
  chkD_of he fun elt target iter ifs scope pos he _ => by
    subst he
    have h : (env.kindOf y == some NameKind.local) = false := by unfold Env.kindOf; rw [hk]; rfl
    show (pure (env.blockKind == .function && env.kindOf y == some .local && p.line == _ && _) : Sem Bool) = _
    rw [h, Bool.and_false]; rfl
noncomputable def lineB (y : Str) (p : Pos) (e : PySem.Expr) : Bool := ob (vw e).comp fun q => (p.line == e.pos.line) && !(q.1.2.2.1.names.any fun (n, k) => n == y && (k == .local || k == .cell))
theorem swaps_local {e : PySem.Expr} {y : Str} {p : Pos} {line : Nat} {env : Env} (hf : env.scope.kind = .function) (hk : env.scope.names.lookup y = some .local) (hl : lineB y p e = true) : swapsWith e (some (.Name y p)) line env = pure true :=
  osE hl fun q hq hl => anE hl fun h1 h2 => by
    subst hq
    have h : (env.kindOf y == some NameKind.local) = true := by unfold Env.kindOf; rw [hk]; rfl
    have hb : (env.blockKind == ScopeKind.function) = true := by
      unfold Env.blockKind
      rw [hf]; rfl
    show (pure (env.blockKind == .function && env.kindOf y == some .local && p.line == (PySem.Expr.ListComp q.1 q.2.1 q.2.2.1 q.2.2.2).pos.line && !(q.2.2.1.names.any fun (n, k) => n == y && (k == .local || k == .cell))) : Sem Bool) = _
    rw [h, hb, h1, h2]; rfl
noncomputable def swOff (ns : Nms) (ts : List PySem.Expr) (v : PySem.Expr) : Bool := ob (vw v).tup fun p => (ts.length == 2 || ts.length == 3) && (!(p.1.1.length != ts.length) && (!(p.1.1.any fun | .Starred .. => true | _ => false) && ((swNames ns ts).length != ts.length || (swNames ns ts).eraseDups.length != (swNames ns ts).length)))
theorem swOff_ok {ts : List PySem.Expr} {k : Nat} {p : Pos} {v : PySem.Expr} {env : Env} (hk : env.scope.kind = .function) (h : swOff env.scope.names ts v = true) : swappedStores [.Tuple ts k p] v env = pure none :=
  osE h fun q hq h => anE h fun h1 h => anE h fun h2 h => anE h fun h3 h4 => by
    have hbk : env.blockKind = .function := by
      unfold Env.blockKind
      show (if env.scope.kind.isAnnotationScope = true then _ else env.scope.kind) = _
      rw [hk]; rfl
    rw [hq]
    exact ite_no (by rw [h1, not_ok h2, hbk]; rfl) (ite_no (not_ok h3) (ite_yes h4 rfl))
theorem locr_free {env : Env} {L : Addr} {ρ : List RA} {news : Led} {m : Str → Option Value} {scope : PySem.Scope} {cl : List (Str × Addr)} {l lf : Loc} (hf : env.scope.kind = .function) (h : ∀ i v, lk lf i = some v → lk l i = some v ∧ ∃ x, at? NM i = some x ∧ env.scope.names.lookup x = some .cell ∧ (rl env.scope.names scope.names).lookup x = some .cell ∧ cl.lookup x = env.cells.lookup x) (hl : LocR NM env L ρ news l m) (Ca : Addr) : LocR NM (compEnvC scope cl Ca env) L ρ news lf m := by
  intro i v e x hx
  obtain ⟨h1, y, h2, h3, h4, h5⟩ := h i v e
  rw [hx] at h2
  cases h2
  obtain ⟨u, hr, hv⟩ := hl i v h1 x hx
  refine ⟨u, ?_, hv⟩
  rcases hr with ⟨a, _⟩ | ⟨a, c, o, b1, b2, b3, b4⟩ | ⟨a, _⟩
  · rw [h3] at a; cases a
  · refine .inr (.inl ⟨?_, c, o, ?_, b2, b3, b4⟩)
    · show (relabel scope env).names.lookup x = _
      rw [rl_ok hf]; exact h4
    · show cl.lookup x = _
      rw [h5]; exact b1
  · rw [h3] at a; cases a
noncomputable def cellB (ns : Nms) (e : PySem.Expr) (x : Str) : Bool := (ns.lookup x == some .cell) && ((rl ns (scOf e).names).lookup x == some .cell)
noncomputable def nDeck : Str := Str.ofString "_law_deck_here"
noncomputable def nForms : Str := Str.ofString "_law_forms"
noncomputable def nEnd : Str := Str.ofString "_law_ending"
section chk
variable (K : Frag) (ns : Nms)
noncomputable def cmpB1 (it : ITm) (cm : CM) (xs : List Str) (e : PySem.Expr) : Bool := chkD K NM ns cm e && (iterB K NM ns it (itOf e) && (freeB (scOf e) xs && xs.all (cellB ns e)))
noncomputable def st1B (s : PySem.Stmt) : Bool := ob (vs s).asg fun p => ob (vw p.1.1).name fun y => ob (vw p.1.2.1).call fun c => ob (vw c.1.1).name fun x => ob (arg1 c.1.2.1) fun z => ob (vw z.1).name fun q => (y.1.1 == nDeck) && (glbB K ns x.1.1 (.val 1099) && rdB NM ns 115 q.1.1)
noncomputable def stCB (it : ITm) (cm : CM) (xs : List Str) (s : PySem.Stmt) : Bool := ob (vs s).asg fun p => ob (vw p.1.1).name fun y => (y.1.1 == nForms) && cmpB1 K ns it cm xs p.1.2.1
noncomputable def st4B (s : PySem.Stmt) : Bool := ob (vs s).asg fun p => ob (vw p.1.1).tup fun t => ob (arg2 t.1.1) fun n => ob (vw n.1.1).name fun y => ob (vw n.1.2).name fun z => (y.1.1 == nEnd) && (locB NM ns 103 z.1.1 && (chkE K NM ns 60 me4 p.1.2.1 && (plainE p.1.2.1 && swOff ns t.1.1 p.1.2.1)))
noncomputable def st5B (s : PySem.Stmt) : Bool := ob (vs s).asg fun p => ob (vw p.1.1).tup fun t => swpB ns [104, 105, 106] t.1.1 p.1.2.1 && chkE K NM ns 60 me5 p.1.2.1
noncomputable def st7B (s : PySem.Stmt) : Bool := ob (vs s).asg fun p => ob (vw p.1.1).name fun y => ob (vw p.1.2.1).call fun c => ob (vw c.1.1).name fun x => ob (arg1 c.1.2.1) fun e => locB NM ns 109 y.1.1 && (glbB K ns x.1.1 (.bi .len) && cmpB1 K ns (.lst (.nm 92)) cmW [] e.1)
noncomputable def st8B (s : PySem.Stmt) : Bool := ob (vs s).asg fun p => ob (vw p.1.1).name fun y => locB NM ns 110 y.1.1 && (cmpB1 K ns (.lst (.list [.nm 103, .nm 104])) cmD [nEnd, nForms] p.1.2.1 && lineB y.1.1 y.1.2 p.1.2.1)
noncomputable def allS : List (PySem.Stmt → Bool) → List PySem.Stmt → Bool
  | [], [] => true
  | f :: fs, s :: ss => f s && allS fs ss
  | _, _ => false
noncomputable def lawB (b : List PySem.Stmt) : Bool := allS [st1B K ns, stCB K ns (.rng (dr 4)) cmF1 [nDeck], stCB K ns (.lst (.nm 92)) cmF2 [], st4B K ns, st5B K ns, chkS K NM ns 60 s6M, st7B K ns, st8B K ns, chkS K NM ns 60 s9M] b
end chk
theorem allS_cons {f : PySem.Stmt → Bool} {fs : List (PySem.Stmt → Bool)} {b : List PySem.Stmt} (h : allS (f :: fs) b = true) : ∃ s r, b = s :: r ∧ f s = true ∧ allS fs r = true := by
  cases b with
  | nil => cases h
  | cons s r => exact anE h fun h1 h2 => ⟨s, r, rfl, h1, h2⟩
theorem law_chk (P : Params) : lawB (HD.K P) HD.lawD.scope.names HD.lawD.body = true := by kernel_rfl
theorem deck_chk (P : Params) : fnC (HD.K P) NM 1099 [111] (deckB (HD.K P)) = true := by kernel_rfl
theorem kept_chk (P : Params) : keptB (HD.K P) (.val 1099) = true := by kernel_rfl
theorem look_inj {cells : List (Str × Addr)} {y z : Str} {a : Addr} (nd : (cells.map (·.2)).Nodup) (h : cells.lookup y = some a) (h' : cells.lookup z = some a) : z = y := by
  have mem : ∀ {cells : List (Str × Addr)} {z : Str}, cells.lookup z = some a → a ∈ cells.map (·.2) := fun {cells z} h => by
    induction cells with
    | nil => cases h
    | cons p r ih =>
      rw [List.lookup_cons] at h
      revert h
      cases z == p.1 with
      | true => exact fun h => by (rw [← Option.some.inj h]; exact .head _)
      | false => exact fun h => .tail _ (ih h)
  induction cells with
  | nil => cases h
  | cons p r ih =>
    rw [List.map_cons, List.nodup_cons] at nd
    rw [List.lookup_cons] at h h'
    revert h h'
    cases e1 : y == p.1 with
    | true =>
      cases e2 : z == p.1 with
      | true => exact fun _ _ => (eq_ok e2).trans (eq_ok e1).symm
      | false => exact fun h h' => absurd (mem h') (by rw [← Option.some.inj h]; exact nd.1)
    | false =>
      cases e2 : z == p.1 with
      | true => exact fun h h' => absurd (mem h) (by rw [← Option.some.inj h']; exact nd.1)
      | false => exact fun h h' => ih nd.2 h h'
theorem nm82 : at? NM 82 = some nDeck := rfl
theorem nm92 : at? NM 92 = some nForms := rfl
theorem nm93 : at? NM 93 = some nEnd := rfl
section st
variable {prog : Program} {w : World} {P : Params} {env : Env} {L : Addr} {h₀ : Heap} {A : Around} {s₀ : Shared}
structure Cells (env : Env) (a b c : Addr) : Prop where
  nd : (env.cells.map (·.2)).Nodup
  kD : env.cells.lookup nDeck = some a
  kF : env.cells.lookup nForms = some b
  kE : env.cells.lookup nEnd = some c
noncomputable abbrev cellsOf : List Str := [nDeck, nForms, nEnd]
theorem Cells.inj {a b c : Addr} (X : Cells env a b c) {y : Str} {e : Addr} (h : env.cells.lookup y = some e) : ∀ z, z ≠ y → env.cells.lookup z = env.cells.lookup y → False := fun z hz e' => hz (look_inj X.nd h (e'.trans h))
noncomputable def StepOK (prog : Program) (w : World) (env : Env) (L : Addr) (h₀ : Heap) (A : Around) (s₀ : Shared) (st : PySem.Stmt) (l : Loc) (σ : H) (l' : Loc) (σ' : H) : Prop := ∀ {s : Shared} {Q : Flow → Shared → Prop} {E : Value → Shared → Prop}, LS NM env h₀ L cellsOf s₀ l σ s → NextQ NM env h₀ L cellsOf s₀ l' σ' Q → wpAny (model prog w) A (exec st env) Q E s
noncomputable def FreeOK (env : Env) (L : Addr) (e : PySem.Expr) (l lf : Loc) (cl : List (Str × Addr)) : Prop := closureFor (scOf e) env = pure cl ∧ ∀ {ρ news m}, LocR NM env L ρ news l m → ∀ Ca, LocR NM (compEnvC (scOf e) cl Ca env) L ρ news lf m
section free
variable {e : PySem.Expr} {l : Loc} {x y : Str} {i j : Nat} {v u : V} {a b : Addr}
theorem free0 (h : freeB (scOf e) [] = true) : FreeOK env L e l [] [] := ⟨clos_of h rfl, fun _ _ => locr_nil⟩
theorem lk_one {i j : Nat} {v w : V} (h : lk [(j, w)] i = some v) : i = j ∧ v = w := cdE h (fun h1 h => ⟨(nbeq.mp h1).symm, (Option.some.inj h).symm⟩) fun _ h => by cases h
theorem free1 (hk : env.scope.kind = .function) (h : freeB (scOf e) [x] = true) (hc : [x].all (cellB env.scope.names e) = true) (hx : at? NM i = some x) (ha : env.cells.lookup x = some a) (hl : lk l i = some v) : FreeOK env L e l [(i, v)] [(x, a)] := by
  refine ⟨clos_of h ?_, locr_free hk fun j u ej => ?_⟩
  · show (env.cells.lookup x).bind _ = _
    rw [ha]; rfl
  · obtain ⟨rfl, rfl⟩ := lk_one ej
    exact anE (all_ok hc x (.head _)) fun h1 h2 => ⟨hl, x, hx, eq_ok h1, eq_ok h2, by rw [List.lookup_cons, beq_self_eq_true, ha]⟩
theorem free2 (hk : env.scope.kind = .function) (hne : (y == x) = false) (h : freeB (scOf e) [x, y] = true) (hc : [x, y].all (cellB env.scope.names e) = true) (hx : at? NM i = some x) (hy : at? NM j = some y) (ha : env.cells.lookup x = some a) (hb : env.cells.lookup y = some b) (h1 : lk l i = some v) (h2 : lk l j = some u) : FreeOK env L e l [(j, u), (i, v)] [(y, b), (x, a)] := by
  refine ⟨clos_of h ?_, locr_free hk fun k z ek => cdE ek (fun e1 ek => ?_) fun _ ek => ?_⟩
  · show (env.cells.lookup x).bind (fun a => (env.cells.lookup y).bind fun b => some [(y, b), (x, a)]) = _
    rw [ha, hb]; rfl
  · rw [← nbeq.mp e1, ← Option.some.inj ek]
    exact anE (all_ok hc y (.tail _ (.head _))) fun c1 c2 => ⟨h2, y, hy, eq_ok c1, eq_ok c2, by rw [List.lookup_cons, beq_self_eq_true, hb]⟩
  · obtain ⟨rfl, rfl⟩ := lk_one ek
    refine anE (all_ok hc x (.head _)) fun c1 c2 => ⟨h1, x, hx, eq_ok c1, eq_ok c2, ?_⟩
    rw [List.lookup_cons, List.lookup_cons, beq_self_eq_true, ha]
    cases hxy : x == y with
    | true => rw [eq_ok hxy, beq_self_eq_true] at hne; cases hne
    | false => rfl
end free
section steps
variable {a b c : Addr} (C : Cx prog w (HD.K P) NM env L h₀ A 20) (SL : env.locals = L) (X : Cells env a b c) {st : PySem.Stmt} {l : Loc} {σ : H}
include C SL X
theorem law1 (hb : st1B (HD.K P) env.scope.names st = true) (hk : env.scope.names.lookup nDeck = some .cell) {scr : Addr} {vs : List Value} {ns : List Int} (hv : lk l 115 = some (.val scr)) (hI : h₀.IsList scr vs.toArray) (hN : IntsAre vs ns) (hz : vs.length ≤ 10000) : ∃ σ' D c0, Deck σ' D c0 ∧ StepOK prog w env L h₀ A s₀ st l σ ((82, .ref D) :: l) σ' :=
  osE hb fun p hp hb => osE hb fun y hy hb => osE hb fun cc hc hb => osE hb fun x hx hb => osE hb fun z hz' hb => osE hb fun q hq hb => anE hb fun b1 hb => anE hb fun b2 b3 => by
    obtain ⟨σ', D, c0, dk, he⟩ := deck_ev (d := 18) (p := x.2) (p2 := q.2) (cp := cc.2.2) C b2 (kept_chk P) b3 (deck_chk P) hv hI hN hz σ
    refine ⟨σ', D, c0, dk, fun S qq => ?_⟩
    rw [hp, show p.1 = _ from hy, show p.2.1 = _ from hc, show cc.1 = _ from hx, show cc.2.1 = _ from hz', show z = _ from hq, show y.1 = _ from eq_ok b1]
    exact stepCell (tab_ok P).G C SL ⟨nm82, hk, X.inj X.kD, .head _⟩ rfl he S qq
theorem lawC {it : ITm} {cm : CM} {xs : List Str} (hb : stCB (HD.K P) env.scope.names it cm xs st = true) (hk : env.scope.names.lookup nForms = some .cell) {lf : Loc} {cl : List (Str × Addr)} {rs : List V} {σ' : H} (he : cmpE cfg (callN cfg 20) 1020 l lf it cm 10 σ = some (rs, σ'))
    (hfr : ∀ e, freeB (scOf e) xs = true → xs.all (cellB env.scope.names e) = true → FreeOK env L e l lf cl) : StepOK prog w env L h₀ A s₀ st l σ ((92, .ref σ'.length) :: l) (σ' ++ [.list rs]) := fun S q =>
  osE hb fun p hp hb => osE hb fun y hy hb => anE hb fun b1 hb => anE hb fun b2 hb => anE hb fun b3 hb => anE hb fun b4 b5 => by
    obtain ⟨f1, f2⟩ := hfr _ b4 b5
    rw [hp, show p.1 = _ from hy, show y.1 = _ from eq_ok b1]
    exact stepCell (tab_ok P).G C SL ⟨nm92, hk, X.inj X.kF, .tail _ (.head _)⟩ (swaps_cell b2 hk) (ev_comp (tab_ok P).G C (calls_ok (tab_ok P) 20) b2 b3 f1 he (by decide) f2) S q
theorem law4 (hb : st4B (HD.K P) env.scope.names st = true) (hk : env.scope.names.lookup nEnd = some .cell) {v1 v2 : V} {t : Nat} {σ' : H} (he : evE cfg (callN cfg 20) 1020 l me4 σ = some (.ref t, σ')) (ht : at? σ' t = some (.tup [v1, v2])) : StepOK prog w env L h₀ A s₀ st l σ ((103, v2) :: (93, v1) :: l) σ' := fun S q =>
  osE hb fun p hp hb => osE hb fun tt htt hb => osE hb fun n hn hb => osE hb fun y hy hb => osE hb fun z hz hb => anE hb fun b1 hb => anE hb fun b2 hb => anE hb fun b3 hb => anE hb fun b4 b5 => by
    rw [show tt.1 = _ from hn, show n.1 = _ from hy, show n.2 = _ from hz, show y.1 = _ from eq_ok b1] at b5
    rw [hp, show p.1 = _ from htt, show tt.1 = _ from hn, show n.1 = _ from hy, show n.2 = _ from hz, show y.1 = _ from eq_ok b1]
    exact stepTup (tab_ok P).G C SL ⟨nm93, hk, X.inj X.kE, .tail _ (.tail _ (.head _))⟩ b2 (plain_sole b4 _ _ _) (swOff_ok C.kf b5) (ev_of (tab_ok P).G C (calls_ok (tab_ok P) 20) b3 he) ht S q
omit X in
theorem law5 (hb : st5B (HD.K P) env.scope.names st = true) {v1 v2 v3 : V} {t : Nat} {σ' : H} (he : evE cfg (callN cfg 20) 1020 l me5 σ = some (.ref t, σ')) (ht : at? σ' t = some (.tup [v1, v2, v3])) : StepOK prog w env L h₀ A s₀ st l σ ((104, v1) :: (105, v2) :: (106, v3) :: l) σ' := fun S q =>
  osE hb fun p hp hb => osE hb fun tt htt hb => anE hb fun b1 b2 => by
    obtain ⟨ρ, news, m, D, hl, hc⟩ := S.ex
    rw [hp, show p.1 = _ from htt]
    exact stepSw (tab_ok P).G.W.nm C SL b1 (ev_of (tab_ok P).G C (calls_ok (tab_ok P) 20) b2 he) ht rfl D hl (S.nextF hc q)
omit X in
theorem law7 (hb : st7B (HD.K P) env.scope.names st = true) {ws : List V} {σ' : H} (he : cmpE cfg (callN cfg 20) 1020 l [] (.lst (.nm 92)) cmW 10 σ = some (ws, σ')) (hz : ws.length ≤ 10000) : StepOK prog w env L h₀ A s₀ st l σ ((109, .int ws.length) :: l) (σ' ++ [.list ws]) := fun S q =>
  osE hb fun p hp hb => osE hb fun y hy hb => osE hb fun cc hc hb => osE hb fun x hx hb => osE hb fun e he' hb => anE hb fun b1 hb => anE hb fun b2 hb => anE hb fun b3 hb => anE hb fun b4 hb => anE hb fun b5 _ => by
    obtain ⟨f1, f2⟩ := free0 (env := env) (L := L) (l := l) b5
    rw [hp, show p.1 = _ from hy, show p.2.1 = _ from hc, show cc.1 = _ from hx, show cc.2.1 = _ from he']
    exact stepName (tab_ok P).G C SL b1 rfl (ev_len C b2 (chkD_ns b3) (tab_ok P).G (ev_comp (tab_ok P).G C (calls_ok (tab_ok P) 20) b3 b4 f1 he (by decide) f2) (at_end _ _) hz) S q
omit X in
theorem law8 (hb : st8B (HD.K P) env.scope.names st = true) {lf : Loc} {cl : List (Str × Addr)} {rs : List V} {σ' : H} (he : cmpE cfg (callN cfg 20) 1020 l lf (.lst (.list [.nm 103, .nm 104])) cmD 5 σ = some (rs, σ'))
    (hfr : ∀ e, freeB (scOf e) [nEnd, nForms] = true → [nEnd, nForms].all (cellB env.scope.names e) = true → FreeOK env L e l lf cl) : StepOK prog w env L h₀ A s₀ st l σ ((110, .ref σ'.length) :: l) (σ' ++ [.list rs]) := fun S q =>
  osE hb fun p hp hb => osE hb fun y hy hb => anE hb fun b1 hb => anE hb fun b2 b3 => anE b2 fun b4 b2 => anE b2 fun b5 b2 => anE b2 fun b6 b7 => by
    obtain ⟨f1, f2⟩ := hfr _ b6 b7
    rw [hp, show p.1 = _ from hy]
    exact stepComp (tab_ok P).G C SL (calls_ok (tab_ok P) 20) b4 b5 f1 b1 (swaps_local C.kf (locB_ok b1).2.1 b3) he (by decide) f2 S q
end steps
end st
theorem cmpE_nm {c : Cfg} {cf : CF} {n i j f : Nat} {l lf : Loc} {cm : CM} {σ : H} {xs : List V} (hl : lk l i = some (.ref j)) (hj : at? σ j = some (.list xs)) : cmpE c cf (n + 1) l lf (.lst (.nm i)) cm f σ = cmpL c cf (n + 1) (.lst j 0) lf cm f 0 σ := by
  show (evE c cf (n + 1) l (.nm i) σ).bind (fun p => (refV p.1).bind fun j => (listAt p.2 j.1).bind fun _ => cmpL c cf (n + 1) (.lst j.1 0) lf cm f 0 p.2) = _
  rw [evE_nm, hl]
  show (listAt σ j).bind _ = _
  rw [listAt_of hj]; rfl
section st
variable {prog : Program} {w : World} {P : Params} {env : Env} {L : Addr} {h₀ : Heap} {A : Around} {s₀ : Shared}
theorem law_walk (C : Cx prog w (HD.K P) NM env L h₀ A 20) (SL : env.locals = L) (X : ∃ a b c, Cells env a b c) (hns : env.scope.names = HD.lawD.scope.names) {scr : Addr} {vs : List Value} {ns : List Int} (hI : h₀.IsList scr vs.toArray) (hN : IntsAre vs ns) (hz : vs.length ≤ 10000)
    {s : Shared} (S : LS NM env h₀ L cellsOf s₀ [(115, .val scr)] [] s) {Q : Flow → Shared → Prop} {E : Value → Shared → Prop} (q : ∀ s', s'.gens = s₀.gens → s'.drawn = s₀.drawn → s'.os = s₀.os → (∀ b o, h₀.get? b = some o → s'.heap.get? b = some o) → Q (.ret (.bool true)) s') :
    wpAny (model prog w) A (execs HD.lawD.body env) Q E s := by
  obtain ⟨a, b, c, X⟩ := X
  have hb := law_chk P
  have kD : env.scope.names.lookup nDeck = some .cell := by rw [hns]; decide +kernel
  have kF : env.scope.names.lookup nForms = some .cell := by rw [hns]; decide +kernel
  have kE : env.scope.names.lookup nEnd = some .cell := by rw [hns]; decide +kernel
  rw [← hns] at hb
  generalize HD.lawD.body = body at hb ⊢
  obtain ⟨t1, r1, rfl, b1, hb⟩ := allS_cons hb
  obtain ⟨t2, r2, rfl, b2, hb⟩ := allS_cons hb
  obtain ⟨t3, r3, rfl, b3, hb⟩ := allS_cons hb
  obtain ⟨t4, r4, rfl, b4, hb⟩ := allS_cons hb
  obtain ⟨t5, r5, rfl, b5, hb⟩ := allS_cons hb
  obtain ⟨t6, r6, rfl, b6, hb⟩ := allS_cons hb
  obtain ⟨t7, r7, rfl, b7, hb⟩ := allS_cons hb
  obtain ⟨t8, r8, rfl, b8, hb⟩ := allS_cons hb
  obtain ⟨t9, r9, rfl, b9, hb⟩ := allS_cons hb
  obtain ⟨σ1, D, c0, dk, w1⟩ := law1 (s₀ := s₀) (l := [(115, .val scr)]) (σ := []) C SL X b1 kD rfl hI hN hz
  refine wpAny_execs_cons (w1 S fun s1 S1 => ?_)
  obtain ⟨σ2, r, a1, a2, a3, a4, a5⟩ := dr_ev (d := 18) (n := 1016) (l := [(82, .ref D), (115, .val scr)]) dk rfl 4 (by decide) (by decide)
  obtain ⟨rs, raw, σ3, c1, c2, c3, c4, c5⟩ := forms1 (d := 18) (n := 1000) (m := r.toNat) r.toNat (k := 0) (f := 10) (by omega) (by omega) a4
  have h2 : cmpE cfg (callN cfg 20) 1020 [(82, .ref D), (115, .val scr)] [(82, .ref D)] (.rng (dr 4)) cmF1 10 σ1 = some (rs, σ3) := by
    show (evE cfg (callN cfg 20) 1020 [(82, .ref D), (115, .val scr)] (dr 4) σ1).bind _ = _
    rw [a1]
    show gd (decide (0 ≤ r ∧ r < 1000)) (cmpL cfg (callN cfg 20) 1020 (.rng r.toNat) [(82, .ref D)] cmF1 10 0 σ2) = _
    rw [decide_eq_true (by omega)]
    exact c1
  refine wpAny_execs_cons (lawC C SL X b2 kF h2 (fun e f1 f2 => free1 C.kf f1 f2 nm82 X.kD rfl) S1 fun s2 S2 => ?_)
  have lrs : rs.length ≤ 3 := by have := c4.len; omega
  have hj := at_end σ3 (O.list rs)
  obtain ⟨rs2, σ4, d1, d2, d3⟩ := forms2 (cf := callN cfg 20) (n := 1000) (a := 0) rs (done := []) (f := 10) (by omega) hj (c4.kp (Kp.app _ _))
  refine wpAny_execs_cons (lawC C SL X b3 kF ((cmpE_nm (n := 1019) rfl hj).trans d1) (fun e f1 f2 => free0 f1) S2 fun s3 S3 => ?_)
  have dk4 := (c2.kp ((Kp.app _ _).trans d2))
  have lF := dk4.lt
  have dk5 : Deck (σ4 ++ [.list rs2]) D c0 := dk4.kp (Kp.app _ _)
  have hok : ∀ f ∈ raw.map fold1, okF f := fun f hf => by
    obtain ⟨g, _, rfl⟩ := List.mem_map.mp hf
    exact fold1_ok g
  have hlen : (raw.map fold1).length ≤ 3 := by rw [List.length_map]; omega
  obtain ⟨σ6, e, r6, t6, f1, f2, f3, f4, f5, f6, f7⟩ := s4 (d := 17) (n := 1000) (l := [(92, .ref σ4.length), (92, .ref σ3.length), (82, .ref D), (115, .val scr)]) rfl dk5
  refine wpAny_execs_cons (law4 C SL X b4 kE f1 f2 S3 fun s4 S4 => ?_)
  have hF6 := f7 σ4.length _ (by omega) (by omega) (at_end σ4 (O.list rs2))
  have hT6 := (d3.kp (Kp.app σ4 [.list rs2])).to fun t xs h => dk5.tup f7 t xs h
  obtain ⟨σ7, r7, T, Q7, t7, g1, g2, g3, g4, g6, g7, g8, g9, g10⟩ := s5 (d := 18) (n := 1000) (l := [(103, .int (1 + r6)), (93, e), (92, .ref σ4.length), (92, .ref σ3.length), (82, .ref D), (115, .val scr)]) (few := 1 + r6) rfl rfl f6
  refine wpAny_execs_cons (law5 C SL b5 g1 g2 S4 fun s5 S5 => ?_)
  have hF7 := g6 _ _ (by omega) (by omega) hF6
  have hT7 := hT6.to fun t xs h => f6.tup g6 t xs h
  have nF := g10 _ _ hF6
  obtain ⟨few, hfew⟩ : ∃ few : Nat, 1 + r6 = (few : Int) := ⟨(1 + r6).toNat, by omega⟩
  obtain ⟨more, hmore⟩ : ∃ more : Nat, 1 + r6 + 1 + r7 = (more : Int) := ⟨(1 + r6 + 1 + r7).toNat, by omega⟩
  obtain ⟨l6, σ8, k1, k2, k3, k4, k5⟩ := s6 (d := 10) (t := ⟨σ4.length, e, T, Q7, 1 + r6, 1 + r6 + 1 + r7⟩) (l := [(104, .int (1 + r6 + 1 + r7)), (105, .ref T), (106, .ref Q7), (103, .int (1 + r6)), (93, e), (92, .ref σ4.length), (92, .ref σ3.length), (82, .ref D), (115, .val scr)]) (few := few) (more := more) (LocS.all ⟨rfl, rfl, rfl, rfl, rfl, rfl, trivial⟩) hfew hmore hF7 hT7 hok hlen (by omega) (by omega) f3 g8 g9 g7 nF.1 nF.2
  refine wpAny_execs_cons (stepS (tab_ok P).G C SL (calls_ok (tab_ok P) 20) b6 k1 S5 fun s6 S6 => ?_)
  have hF8 := k5 _ _ nF.1 nF.2 hF7
  have hT8 := hT7.to fun t xs h => k5 _ _ (fun e => by rw [e] at h; rw [g8] at h; cases h) (fun e => by rw [e] at h; rw [g9] at h; cases h) h
  obtain ⟨ws, m1, m2, m3⟩ := waits_eq (cf := callN cfg 20) (n := 1000) (a := 0) rs2 (done := []) (f := 10) (by have := hT8.len; omega) hF8 hT8
  refine wpAny_execs_cons (law7 C SL b7 ((cmpE_nm (n := 1019) (k2 92 _ rfl) hF8).trans m1) (by have := hT8.len; omega) S6 fun s7 S7 => ?_)
  rw [m2] at S7
  have k8 : Kp σ8 (σ8 ++ [.list ws]) := Kp.app _ _
  have e103 : lk l6 103 = some (.int few) := by rw [← hfew]; exact k2 103 _ rfl
  have e104 : lk l6 104 = some (.int more) := by rw [← hmore]; exact k2 104 _ rfl
  obtain ⟨σ9, u1, u2⟩ := dues_eq (d := 17) (n := 1000) (t := ⟨σ4.length, e, T, Q7, 1 + r6, 1 + r6 + 1 + r7⟩) (l := (109, .int (wF (raw.map fold1))) :: l6) (few := few) (more := more) e103 e104 (k8 _ _ hF8) (hT8.kp k8) hok hlen (by omega) (by omega) f3
  refine wpAny_execs_cons (law8 C SL b8 u1 (fun e f1 f2 => free2 C.kf (by decide +kernel) f1 f2 nm93 nm92 X.kE X.kF (k2 93 _ rfl) (k2 92 _ rfl)) S7 fun s8 S8 => ?_)
  have k9 := (k8.trans u2).trans (Kp.app σ9 [.list [.str (rpL (gN (raw.map fold1) e few)), .str (rpL (gN (raw.map fold1) e more))]])
  exact wpAny_execs_cons (stepRet (tab_ok P).G C SL (calls_ok (tab_ok P) 20) b9 (s9 (cf := callN cfg 20) (n := 1000) (fs := raw.map fold1) (l := (110, .ref σ9.length) :: (109, .int (wF (raw.map fold1))) :: l6) e103 e104 (k2 105 _ rfl) (k2 106 _ rfl) rfl rfl f3 (k9 _ _ k3) (at_end _ _) (k9 _ _ k4) (by omega) (by omega) (by omega)) S8 q)
end st
end MP
end
section
open PySem PySem.W PyProof.Rows PySem.Calls
set_option maxHeartbeats 4000000
namespace MP
theorem nm115 : at? NM 115 = some (Str.ofString "script") := rfl
theorem nd3 (n : Nat) : ([n + 1 + 1 + 1, n + 1 + 1, n + 1] : List Nat).Nodup := by simp <;> omega
theorem lawWalk : HD.LawWalk := by
  k_fill
  intro w s₀ s₁ mg mb G Y fa o pm cd doc dV kV ho hd hcd hD hmg hg args vals as hpre hlay hrd hwl hlo
  have KX := kIn_of Y
  have X := (Ground.X G).1
  have V := (Ground.X G).2
  refine Ground.open G ?_
  intro T B D TE TW
  try (refine guard_noD D (by decide +kernel) ?_; clear D)
  obtain ⟨_, _, M⟩ := bmod_of_top T
  have TA := at_of_top T
  try (obtain ⟨_, _, he, B0⟩ := based_of_top T rfl hmg ho hd; have he' : cd = _ := he; subst he'; clear he)
  clear hmg
  wrow_args hpre hlay hrd hwl hlo
  refine enter_call ?_
  w_top on
  try refine codeAny_mono ?_ (fun _ _ g => GoodW.toG g)
  have K0 := below_caller (Top.heap T)
  w_call any ho hd hcd hD T F
  clear hd TA
  k_drop
  rename Fr _ _ _ _ => F
  rename News _ _ _ _ => N0
  rename Frag.In _ _ => KX
  rename Top _ _ _ _ _ _ => T
  rename Below _ _ _ _ => K0
  rename IntsAre _ _ => hI
  rename Heap.IsList _ _ _ => hL
  rename _ = Data.cell (bindC _ _ _ (Str.ofString "_law_ending")) => cE
  rename _ = Data.cell (bindC _ _ _ (Str.ofString "_law_forms")) => cF
  rename _ = Data.cell (bindC _ _ _ (Str.ofString "_law_deck_here")) => cD
  rename _ = #[] => hg
  rename ¬ _ => h63
  refine law_walk (s₀ := { heap := _, gens := _, drawn := _, toks := _, os := _ }) ⟨KX, ⟨_, _, _, _, _, T⟩, ⟨callerA, _, _, [], K0, Around.frames_deeper rfl, rfl, rfl⟩, rfl, rfl, rfl, rfl, ?dep, ?un, rfl⟩ rfl ?cells rfl hL hI ?hz ⟨⟨[], _, _, ⟨F, N0, ?nd, ⟨rfl, (fun i o h => by cases h), List.nodup_nil⟩⟩, ?hl, ?hc⟩, rfl, rfl, rfl⟩ ?q
  case cells => exact ⟨_, _, _, nd3 _, rfl, rfl, rfl⟩
  case dep => exact Nat.le_of_ble_eq_true rfl
  case un => exact Nat.le_of_ble_eq_true rfl
  case hz =>
    have := hI.length
    omega
  case nd => exact nd3 _
  case hl =>
    intro i v e x hx
    obtain ⟨rfl, rfl⟩ := lk_one e
    rw [nm115] at hx
    cases hx
    exact ⟨_, .inl ⟨rfl, rfl, rfl⟩, .val _⟩
  case hc =>
    intro x hx
    simp only [List.mem_cons, List.not_mem_nil, or_false] at hx
    rcases hx with rfl | rfl | rfl
    · exact ⟨_, _, _, rfl, .tail _ (.tail _ (.head _)), by simp [adrs], cD⟩
    · exact ⟨_, _, _, rfl, .tail _ (.head _), by simp [adrs], cF⟩
    · exact ⟨_, _, _, rfl, .head _, by simp [adrs], cE⟩
  case q =>
    intro s' g d o hk
    refine ⟨.inl ⟨.bool true, .bool true, [], rfl, raisesW_false ?g1, .bool true, ?g2, unshared_nil⟩, hk, o, g.trans hg⟩
    case g1 => wrow_none_raised
    case g2 => wrow_post
end MP
end
theorem PySem.Challenge.cw_nt0221_01_holds : PySem.Challenge.rw_nt0221_01.Holds :=
  HD.hdT MP.lawWalk

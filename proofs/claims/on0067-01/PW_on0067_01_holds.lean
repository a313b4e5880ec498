import PyProof.Rows.All
import Wide.All
import OpenK.AllK
import Wide.FinOn
import PySem.Challenge.RW_on0067_01
open PySem PySem.W PyProof.Rows
set_option Elab.async false
set_option maxRecDepth 100000
set_option maxHeartbeats 8000000
namespace Mine
-- roads into the program's term
noncomputable def kTop (i : Nat) : Stmt := (PySem.Challenge.pw_on0067_01.main.body[i]?).getD (.Pass default)
def clsBody : Stmt → List Stmt
  | .ClassDef _ _ _ b _ _ _ _ _ _ _ => b
  | _ => []
noncomputable def kMeth (i j : Nat) : Stmt := ((clsBody (kTop i))[j]?).getD (.Pass default)
def fnBody : Stmt → List Stmt
  | .FunctionDef _ _ b _ _ _ _ _ _ _ => b
  | _ => []
def fnArgs : Stmt → Arguments
  | .FunctionDef _ a _ _ _ _ _ _ _ _ => a
  | _ => default
def fnScope : Stmt → Scope
  | .FunctionDef _ _ _ _ _ _ s _ _ _ => s
  | _ => default
noncomputable def o2 (_ : Params) : Obj := ⟨.none, none, .dict #[] 0, #[]⟩
noncomputable def o3 (P : Params) : Obj := ⟨(.type "dict"), none, .dict #[⟨PyData.keyHash P (Str.ofString "__name__"), .str (Str.ofString "__name__") 165, (.str (Str.ofString "law_on0067_01") 589)⟩, ⟨PyData.keyHash P (Str.ofString "__doc__"), .str (Str.ofString "__doc__") 166, .none⟩, ⟨PyData.keyHash P (Str.ofString "__package__"), .str (Str.ofString "__package__") 167, .none⟩, ⟨PyData.keyHash P (Str.ofString "__loader__"), .str (Str.ofString "__loader__") 168, (.builtin "__main__.__loader__#opaque")⟩, ⟨PyData.keyHash P (Str.ofString "__spec__"), .str (Str.ofString "__spec__") 169, .none⟩, ⟨PyData.keyHash P (Str.ofString "__annotations__"), .str (Str.ofString "__annotations__") 170, (.ref 6)⟩, ⟨PyData.keyHash P (Str.ofString "__builtins__"), .str (Str.ofString "__builtins__") 171, (.ref 4)⟩, ⟨PyData.keyHash P (Str.ofString "__file__"), .str (Str.ofString "__file__") 173, (.str (Str.ofString "/claim/cut.py") 172)⟩, ⟨PyData.keyHash P (Str.ofString "__cached__"), .str (Str.ofString "__cached__") 174, .none⟩, ⟨PyData.keyHash P (Str.ofString "_wall"), .str (Str.ofString "_wall") 193, (.ref 21)⟩, ⟨PyData.keyHash P (Str.ofString "GapText"), .str (Str.ofString "GapText") 313, (.ref 108)⟩, ⟨PyData.keyHash P (Str.ofString "Markers"), .str (Str.ofString "Markers") 405, (.ref 178)⟩, ⟨PyData.keyHash P (Str.ofString "Opaque"), .str (Str.ofString "Opaque") 449, (.ref 213)⟩, ⟨PyData.keyHash P (Str.ofString "Buffer"), .str (Str.ofString "Buffer") 588, (.ref 319)⟩, ⟨PyData.keyHash P (Str.ofString "_law_deck"), .str (Str.ofString "_law_deck") 596, (.ref 326)⟩, ⟨PyData.keyHash P (Str.ofString "_law_draw"), .str (Str.ofString "_law_draw") 605, (.ref 333)⟩, ⟨PyData.keyHash P (Str.ofString "_law_is_right"), .str (Str.ofString "_law_is_right") 619, (.ref 340)⟩, ⟨PyData.keyHash P (Str.ofString "_law_edit"), .str (Str.ofString "_law_edit") 625, (.ref 345)⟩, ⟨PyData.keyHash P (Str.ofString "_law_counted"), .str (Str.ofString "_law_counted") 635, (.ref 352)⟩, ⟨PyData.keyHash P (Str.ofString "law"), .str (Str.ofString "law") 651, (.ref 359)⟩] 20, #[]⟩
noncomputable def o34 (_ : Params) : Obj := ⟨(.type "code"), none, .fields #[(.str (Str.ofString "__init__") 208), (.str (Str.ofString "GapText.__init__") 209), (.str (Str.ofString "/claim/cut.py") 210), (.int 7 0), (.int 3 0), (.int 0 0), (.int 0 0), (.int 3 0), (.ref 29), (.bool true), (.int 181 0), (.ref 30), .none, (.ref 31), (.ref 32), (.ref 33), (.int 214 0), (.int 7 0), (.str (Str.ofString "/claim/cut.py") 215)], #[]⟩
noncomputable def p35 (_ : Params) : Obj := ⟨(.type "function"), none, .func { name := (Str.ofString "__init__"), qualname := (Str.ofString "GapText.__init__"), params := (fnArgs (kMeth 2 0)), body := .stmts (fnBody (kMeth 2 0)), scope := (fnScope (kMeth 2 0)), globals := 3, closure := [], defaults := .none, kwdefaults := .none, doc := .none, pyModule := (.str (Str.ofString "emacs.gap") 194), annotations := none, code := (.ref 34), closureTuple := .none, builtins := 0 }, #[]⟩
noncomputable def o35 (_ : Params) : Obj := by
  refine' (?f : (x : List Stmt) → (y : Arguments) → (z : Scope) → x = fnBody (kMeth 2 0) → y = fnArgs (kMeth 2 0) → z = fnScope (kMeth 2 0) → Obj) _ _ _ ?h1 ?h2 ?h3
  case f => exact fun x y z _ _ _ => ⟨(.type "function"), none, .func { name := (Str.ofString "__init__"), qualname := (Str.ofString "GapText.__init__"), params := y, body := .stmts x, scope := z, globals := 3, closure := [], defaults := .none, kwdefaults := .none, doc := .none, pyModule := (.str (Str.ofString "emacs.gap") 194), annotations := none, code := (.ref 34), closureTuple := .none, builtins := 0 }, #[]⟩
  case h1 => (conv => rhs; whnf)
  case h2 => (conv => rhs; whnf)
  case h3 => (conv => rhs; whnf)
noncomputable def o41 (_ : Params) : Obj := ⟨(.type "code"), none, .fields #[(.str (Str.ofString "size") 217), (.str (Str.ofString "GapText.size") 218), (.str (Str.ofString "/claim/cut.py") 219), (.int 13 0), (.int 1 0), (.int 0 0), (.int 0 0), (.int 3 0), (.ref 36), (.bool true), (.int 181 0), (.ref 37), .none, (.ref 38), (.ref 39), (.ref 40), (.int 221 0), (.int 13 0), (.str (Str.ofString "/claim/cut.py") 222)], #[]⟩
noncomputable def p42 (_ : Params) : Obj := ⟨(.type "function"), none, .func { name := (Str.ofString "size"), qualname := (Str.ofString "GapText.size"), params := (fnArgs (kMeth 2 1)), body := .stmts (fnBody (kMeth 2 1)), scope := (fnScope (kMeth 2 1)), globals := 3, closure := [], defaults := .none, kwdefaults := .none, doc := .none, pyModule := (.str (Str.ofString "emacs.gap") 194), annotations := none, code := (.ref 41), closureTuple := .none, builtins := 0 }, #[]⟩
noncomputable def o42 (_ : Params) : Obj := by
  refine' (?f : (x : List Stmt) → (y : Arguments) → (z : Scope) → x = fnBody (kMeth 2 1) → y = fnArgs (kMeth 2 1) → z = fnScope (kMeth 2 1) → Obj) _ _ _ ?h1 ?h2 ?h3
  case f => exact fun x y z _ _ _ => ⟨(.type "function"), none, .func { name := (Str.ofString "size"), qualname := (Str.ofString "GapText.size"), params := y, body := .stmts x, scope := z, globals := 3, closure := [], defaults := .none, kwdefaults := .none, doc := .none, pyModule := (.str (Str.ofString "emacs.gap") 194), annotations := none, code := (.ref 41), closureTuple := .none, builtins := 0 }, #[]⟩
  case h1 => (conv => rhs; whnf)
  case h2 => (conv => rhs; whnf)
  case h3 => (conv => rhs; whnf)
noncomputable def o48 (_ : Params) : Obj := ⟨(.type "code"), none, .fields #[(.str (Str.ofString "code") 224), (.str (Str.ofString "GapText.code") 225), (.str (Str.ofString "/claim/cut.py") 226), (.int 16 0), (.int 2 0), (.int 0 0), (.int 0 0), (.int 3 0), (.ref 43), (.bool true), (.int 181 0), (.ref 44), .none, (.ref 45), (.ref 46), (.ref 47), (.int 229 0), (.int 16 0), (.str (Str.ofString "/claim/cut.py") 230)], #[]⟩
noncomputable def p49 (_ : Params) : Obj := ⟨(.type "function"), none, .func { name := (Str.ofString "code"), qualname := (Str.ofString "GapText.code"), params := (fnArgs (kMeth 2 2)), body := .stmts (fnBody (kMeth 2 2)), scope := (fnScope (kMeth 2 2)), globals := 3, closure := [], defaults := .none, kwdefaults := .none, doc := .none, pyModule := (.str (Str.ofString "emacs.gap") 194), annotations := none, code := (.ref 48), closureTuple := .none, builtins := 0 }, #[]⟩
noncomputable def o49 (_ : Params) : Obj := by
  refine' (?f : (x : List Stmt) → (y : Arguments) → (z : Scope) → x = fnBody (kMeth 2 2) → y = fnArgs (kMeth 2 2) → z = fnScope (kMeth 2 2) → Obj) _ _ _ ?h1 ?h2 ?h3
  case f => exact fun x y z _ _ _ => ⟨(.type "function"), none, .func { name := (Str.ofString "code"), qualname := (Str.ofString "GapText.code"), params := y, body := .stmts x, scope := z, globals := 3, closure := [], defaults := .none, kwdefaults := .none, doc := .none, pyModule := (.str (Str.ofString "emacs.gap") 194), annotations := none, code := (.ref 48), closureTuple := .none, builtins := 0 }, #[]⟩
  case h1 => (conv => rhs; whnf)
  case h2 => (conv => rhs; whnf)
  case h3 => (conv => rhs; whnf)
noncomputable def o55 (_ : Params) : Obj := ⟨(.type "code"), none, .fields #[(.str (Str.ofString "codes") 232), (.str (Str.ofString "GapText.codes") 233), (.str (Str.ofString "/claim/cut.py") 234), (.int 21 0), (.int 3 0), (.int 0 0), (.int 0 0), (.int 3 0), (.ref 50), (.bool true), (.int 181 0), (.ref 51), .none, (.ref 52), (.ref 53), (.ref 54), (.int 239 0), (.int 21 0), (.str (Str.ofString "/claim/cut.py") 240)], #[]⟩
noncomputable def p56 (_ : Params) : Obj := ⟨(.type "function"), none, .func { name := (Str.ofString "codes"), qualname := (Str.ofString "GapText.codes"), params := (fnArgs (kMeth 2 3)), body := .stmts (fnBody (kMeth 2 3)), scope := (fnScope (kMeth 2 3)), globals := 3, closure := [], defaults := .none, kwdefaults := .none, doc := .none, pyModule := (.str (Str.ofString "emacs.gap") 194), annotations := none, code := (.ref 55), closureTuple := .none, builtins := 0 }, #[]⟩
noncomputable def o56 (_ : Params) : Obj := by
  refine' (?f : (x : List Stmt) → (y : Arguments) → (z : Scope) → x = fnBody (kMeth 2 3) → y = fnArgs (kMeth 2 3) → z = fnScope (kMeth 2 3) → Obj) _ _ _ ?h1 ?h2 ?h3
  case f => exact fun x y z _ _ _ => ⟨(.type "function"), none, .func { name := (Str.ofString "codes"), qualname := (Str.ofString "GapText.codes"), params := y, body := .stmts x, scope := z, globals := 3, closure := [], defaults := .none, kwdefaults := .none, doc := .none, pyModule := (.str (Str.ofString "emacs.gap") 194), annotations := none, code := (.ref 55), closureTuple := .none, builtins := 0 }, #[]⟩
  case h1 => (conv => rhs; whnf)
  case h2 => (conv => rhs; whnf)
  case h3 => (conv => rhs; whnf)
noncomputable def o62 (_ : Params) : Obj := ⟨(.type "code"), none, .fields #[(.str (Str.ofString "move_gap") 242), (.str (Str.ofString "GapText.move_gap") 243), (.str (Str.ofString "/claim/cut.py") 244), (.int 29 0), (.int 2 0), (.int 0 0), (.int 0 0), (.int 3 0), (.ref 57), (.bool true), (.int 181 0), (.ref 58), .none, (.ref 59), (.ref 60), (.ref 61), (.int 248 0), (.int 29 0), (.str (Str.ofString "/claim/cut.py") 249)], #[]⟩
noncomputable def p63 (_ : Params) : Obj := ⟨(.type "function"), none, .func { name := (Str.ofString "move_gap"), qualname := (Str.ofString "GapText.move_gap"), params := (fnArgs (kMeth 2 4)), body := .stmts (fnBody (kMeth 2 4)), scope := (fnScope (kMeth 2 4)), globals := 3, closure := [], defaults := .none, kwdefaults := .none, doc := .none, pyModule := (.str (Str.ofString "emacs.gap") 194), annotations := none, code := (.ref 62), closureTuple := .none, builtins := 0 }, #[]⟩
noncomputable def o63 (_ : Params) : Obj := by
  refine' (?f : (x : List Stmt) → (y : Arguments) → (z : Scope) → x = fnBody (kMeth 2 4) → y = fnArgs (kMeth 2 4) → z = fnScope (kMeth 2 4) → Obj) _ _ _ ?h1 ?h2 ?h3
  case f => exact fun x y z _ _ _ => ⟨(.type "function"), none, .func { name := (Str.ofString "move_gap"), qualname := (Str.ofString "GapText.move_gap"), params := y, body := .stmts x, scope := z, globals := 3, closure := [], defaults := .none, kwdefaults := .none, doc := .none, pyModule := (.str (Str.ofString "emacs.gap") 194), annotations := none, code := (.ref 62), closureTuple := .none, builtins := 0 }, #[]⟩
  case h1 => (conv => rhs; whnf)
  case h2 => (conv => rhs; whnf)
  case h3 => (conv => rhs; whnf)
noncomputable def o69 (_ : Params) : Obj := ⟨(.type "code"), none, .fields #[(.str (Str.ofString "widen_gap") 251), (.str (Str.ofString "GapText.widen_gap") 252), (.str (Str.ofString "/claim/cut.py") 253), (.int 40 0), (.int 2 0), (.int 0 0), (.int 0 0), (.int 3 0), (.ref 64), (.bool true), (.int 181 0), (.ref 65), .none, (.ref 66), (.ref 67), (.ref 68), (.int 257 0), (.int 40 0), (.str (Str.ofString "/claim/cut.py") 258)], #[]⟩
noncomputable def p70 (_ : Params) : Obj := ⟨(.type "function"), none, .func { name := (Str.ofString "widen_gap"), qualname := (Str.ofString "GapText.widen_gap"), params := (fnArgs (kMeth 2 5)), body := .stmts (fnBody (kMeth 2 5)), scope := (fnScope (kMeth 2 5)), globals := 3, closure := [], defaults := .none, kwdefaults := .none, doc := .none, pyModule := (.str (Str.ofString "emacs.gap") 194), annotations := none, code := (.ref 69), closureTuple := .none, builtins := 0 }, #[]⟩
noncomputable def o70 (_ : Params) : Obj := by
  refine' (?f : (x : List Stmt) → (y : Arguments) → (z : Scope) → x = fnBody (kMeth 2 5) → y = fnArgs (kMeth 2 5) → z = fnScope (kMeth 2 5) → Obj) _ _ _ ?h1 ?h2 ?h3
  case f => exact fun x y z _ _ _ => ⟨(.type "function"), none, .func { name := (Str.ofString "widen_gap"), qualname := (Str.ofString "GapText.widen_gap"), params := y, body := .stmts x, scope := z, globals := 3, closure := [], defaults := .none, kwdefaults := .none, doc := .none, pyModule := (.str (Str.ofString "emacs.gap") 194), annotations := none, code := (.ref 69), closureTuple := .none, builtins := 0 }, #[]⟩
  case h1 => (conv => rhs; whnf)
  case h2 => (conv => rhs; whnf)
  case h3 => (conv => rhs; whnf)
noncomputable def o76 (_ : Params) : Obj := ⟨(.type "code"), none, .fields #[(.str (Str.ofString "insert") 260), (.str (Str.ofString "GapText.insert") 261), (.str (Str.ofString "/claim/cut.py") 262), (.int 46 0), (.int 3 0), (.int 0 0), (.int 0 0), (.int 3 0), (.ref 71), (.bool true), (.int 181 0), (.ref 72), .none, (.ref 73), (.ref 74), (.ref 75), (.int 266 0), (.int 46 0), (.str (Str.ofString "/claim/cut.py") 267)], #[]⟩
noncomputable def p77 (_ : Params) : Obj := ⟨(.type "function"), none, .func { name := (Str.ofString "insert"), qualname := (Str.ofString "GapText.insert"), params := (fnArgs (kMeth 2 6)), body := .stmts (fnBody (kMeth 2 6)), scope := (fnScope (kMeth 2 6)), globals := 3, closure := [], defaults := .none, kwdefaults := .none, doc := .none, pyModule := (.str (Str.ofString "emacs.gap") 194), annotations := none, code := (.ref 76), closureTuple := .none, builtins := 0 }, #[]⟩
noncomputable def o77 (_ : Params) : Obj := by
  refine' (?f : (x : List Stmt) → (y : Arguments) → (z : Scope) → x = fnBody (kMeth 2 6) → y = fnArgs (kMeth 2 6) → z = fnScope (kMeth 2 6) → Obj) _ _ _ ?h1 ?h2 ?h3
  case f => exact fun x y z _ _ _ => ⟨(.type "function"), none, .func { name := (Str.ofString "insert"), qualname := (Str.ofString "GapText.insert"), params := y, body := .stmts x, scope := z, globals := 3, closure := [], defaults := .none, kwdefaults := .none, doc := .none, pyModule := (.str (Str.ofString "emacs.gap") 194), annotations := none, code := (.ref 76), closureTuple := .none, builtins := 0 }, #[]⟩
  case h1 => (conv => rhs; whnf)
  case h2 => (conv => rhs; whnf)
  case h3 => (conv => rhs; whnf)
noncomputable def o83 (_ : Params) : Obj := ⟨(.type "code"), none, .fields #[(.str (Str.ofString "delete") 269), (.str (Str.ofString "GapText.delete") 270), (.str (Str.ofString "/claim/cut.py") 271), (.int 52 0), (.int 3 0), (.int 0 0), (.int 0 0), (.int 3 0), (.ref 78), (.bool true), (.int 181 0), (.ref 79), .none, (.ref 80), (.ref 81), (.ref 82), (.int 276 0), (.int 52 0), (.str (Str.ofString "/claim/cut.py") 277)], #[]⟩
noncomputable def p84 (_ : Params) : Obj := ⟨(.type "function"), none, .func { name := (Str.ofString "delete"), qualname := (Str.ofString "GapText.delete"), params := (fnArgs (kMeth 2 7)), body := .stmts (fnBody (kMeth 2 7)), scope := (fnScope (kMeth 2 7)), globals := 3, closure := [], defaults := .none, kwdefaults := .none, doc := .none, pyModule := (.str (Str.ofString "emacs.gap") 194), annotations := none, code := (.ref 83), closureTuple := .none, builtins := 0 }, #[]⟩
noncomputable def o84 (_ : Params) : Obj := by
  refine' (?f : (x : List Stmt) → (y : Arguments) → (z : Scope) → x = fnBody (kMeth 2 7) → y = fnArgs (kMeth 2 7) → z = fnScope (kMeth 2 7) → Obj) _ _ _ ?h1 ?h2 ?h3
  case f => exact fun x y z _ _ _ => ⟨(.type "function"), none, .func { name := (Str.ofString "delete"), qualname := (Str.ofString "GapText.delete"), params := y, body := .stmts x, scope := z, globals := 3, closure := [], defaults := .none, kwdefaults := .none, doc := .none, pyModule := (.str (Str.ofString "emacs.gap") 194), annotations := none, code := (.ref 83), closureTuple := .none, builtins := 0 }, #[]⟩
  case h1 => (conv => rhs; whnf)
  case h2 => (conv => rhs; whnf)
  case h3 => (conv => rhs; whnf)
noncomputable def o107 (P : Params) : Obj := ⟨(.type "dict"), none, .dict #[⟨PyData.keyHash P (Str.ofString "__module__"), .str (Str.ofString "__module__") 203, (.str (Str.ofString "emacs.gap") 194)⟩, ⟨PyData.keyHash P (Str.ofString "__firstlineno__"), .str (Str.ofString "__firstlineno__") 207, (.int 5 206)⟩, ⟨PyData.keyHash P (Str.ofString "__init__"), .str (Str.ofString "__init__") 216, (.ref 35)⟩, ⟨PyData.keyHash P (Str.ofString "size"), .str (Str.ofString "size") 223, (.ref 42)⟩, ⟨PyData.keyHash P (Str.ofString "code"), .str (Str.ofString "code") 231, (.ref 49)⟩, ⟨PyData.keyHash P (Str.ofString "codes"), .str (Str.ofString "codes") 241, (.ref 56)⟩, ⟨PyData.keyHash P (Str.ofString "move_gap"), .str (Str.ofString "move_gap") 250, (.ref 63)⟩, ⟨PyData.keyHash P (Str.ofString "widen_gap"), .str (Str.ofString "widen_gap") 259, (.ref 70)⟩, ⟨PyData.keyHash P (Str.ofString "insert"), .str (Str.ofString "insert") 268, (.ref 77)⟩, ⟨PyData.keyHash P (Str.ofString "delete"), .str (Str.ofString "delete") 278, (.ref 84)⟩, ⟨PyData.keyHash P (Str.ofString "put"), .str (Str.ofString "put") 287, (.ref 91)⟩, ⟨PyData.keyHash P (Str.ofString "narrow_gap"), .str (Str.ofString "narrow_gap") 294, (.ref 98)⟩, ⟨PyData.keyHash P (Str.ofString "is_whole"), .str (Str.ofString "is_whole") 301, (.ref 105)⟩, ⟨PyData.keyHash P (Str.ofString "__static_attributes__"), .str (Str.ofString "__static_attributes__") 306, (.ref 106)⟩, ⟨PyData.keyHash P (Str.ofString "__dict__"), .str (Str.ofString "__dict__") 308, (.ref 109)⟩, ⟨PyData.keyHash P (Str.ofString "__weakref__"), .str (Str.ofString "__weakref__") 310, (.ref 110)⟩, ⟨PyData.keyHash P (Str.ofString "__doc__"), .str (Str.ofString "__doc__") 311, .none⟩] 4, #[]⟩
noncomputable def o108 (_ : Params) : Obj := ⟨(.type "type"), none, .cls { name := (Str.ofString "GapText"), bases := [(.type "object")], mro := [(.ref 108), (.type "object")], ns := 107, qualname := (Str.ofString "GapText"), hasDict := true, slotNames := [], subclasses := [], abstract := false, collection := none, hasDel := false }, #[none, none, (some (.str (Str.ofString "GapText") 196)), (some (.str (Str.ofString "GapText") 204)), (some (.builtin "object.__new__")), (some (.bool true))]⟩
noncomputable def o125 (_ : Params) : Obj := ⟨(.type "code"), none, .fields #[(.str (Str.ofString "__init__") 328), (.str (Str.ofString "Markers.__init__") 329), (.str (Str.ofString "/claim/cut.py") 330), (.int 73 0), (.int 1 0), (.int 0 0), (.int 0 0), (.int 3 0), (.ref 120), (.bool true), (.int 181 0), (.ref 121), .none, (.ref 122), (.ref 123), (.ref 124), (.int 332 0), (.int 73 0), (.str (Str.ofString "/claim/cut.py") 333)], #[]⟩
noncomputable def p126 (_ : Params) : Obj := ⟨(.type "function"), none, .func { name := (Str.ofString "__init__"), qualname := (Str.ofString "Markers.__init__"), params := (fnArgs (kMeth 4 0)), body := .stmts (fnBody (kMeth 4 0)), scope := (fnScope (kMeth 4 0)), globals := 3, closure := [], defaults := .none, kwdefaults := .none, doc := .none, pyModule := (.str (Str.ofString "emacs.markers") 314), annotations := none, code := (.ref 125), closureTuple := .none, builtins := 0 }, #[]⟩
noncomputable def o126 (_ : Params) : Obj := by
  refine' (?f : (x : List Stmt) → (y : Arguments) → (z : Scope) → x = fnBody (kMeth 4 0) → y = fnArgs (kMeth 4 0) → z = fnScope (kMeth 4 0) → Obj) _ _ _ ?h1 ?h2 ?h3
  case f => exact fun x y z _ _ _ => ⟨(.type "function"), none, .func { name := (Str.ofString "__init__"), qualname := (Str.ofString "Markers.__init__"), params := y, body := .stmts x, scope := z, globals := 3, closure := [], defaults := .none, kwdefaults := .none, doc := .none, pyModule := (.str (Str.ofString "emacs.markers") 314), annotations := none, code := (.ref 125), closureTuple := .none, builtins := 0 }, #[]⟩
  case h1 => (conv => rhs; whnf)
  case h2 => (conv => rhs; whnf)
  case h3 => (conv => rhs; whnf)
noncomputable def o177 (P : Params) : Obj := ⟨(.type "dict"), none, .dict #[⟨PyData.keyHash P (Str.ofString "__module__"), .str (Str.ofString "__module__") 323, (.str (Str.ofString "emacs.markers") 314)⟩, ⟨PyData.keyHash P (Str.ofString "__firstlineno__"), .str (Str.ofString "__firstlineno__") 327, (.int 71 326)⟩, ⟨PyData.keyHash P (Str.ofString "__init__"), .str (Str.ofString "__init__") 334, (.ref 126)⟩, ⟨PyData.keyHash P (Str.ofString "numbers"), .str (Str.ofString "numbers") 341, (.ref 133)⟩, ⟨PyData.keyHash P (Str.ofString "put"), .str (Str.ofString "put") 350, (.ref 140)⟩, ⟨PyData.keyHash P (Str.ofString "drop"), .str (Str.ofString "drop") 358, (.ref 147)⟩, ⟨PyData.keyHash P (Str.ofString "within"), .str (Str.ofString "within") 367, (.ref 154)⟩, ⟨PyData.keyHash P (Str.ofString "inserted"), .str (Str.ofString "inserted") 377, (.ref 161)⟩, ⟨PyData.keyHash P (Str.ofString "deleted"), .str (Str.ofString "deleted") 386, (.ref 168)⟩, ⟨PyData.keyHash P (Str.ofString "replaced"), .str (Str.ofString "replaced") 396, (.ref 175)⟩, ⟨PyData.keyHash P (Str.ofString "__static_attributes__"), .str (Str.ofString "__static_attributes__") 398, (.ref 176)⟩, ⟨PyData.keyHash P (Str.ofString "__dict__"), .str (Str.ofString "__dict__") 400, (.ref 179)⟩, ⟨PyData.keyHash P (Str.ofString "__weakref__"), .str (Str.ofString "__weakref__") 402, (.ref 180)⟩, ⟨PyData.keyHash P (Str.ofString "__doc__"), .str (Str.ofString "__doc__") 403, .none⟩] 4, #[]⟩
noncomputable def o178 (_ : Params) : Obj := ⟨(.type "type"), none, .cls { name := (Str.ofString "Markers"), bases := [(.type "object")], mro := [(.ref 178), (.type "object")], ns := 177, qualname := (Str.ofString "Markers"), hasDict := true, slotNames := [], subclasses := [], abstract := false, collection := none, hasDel := false }, #[none, none, (some (.str (Str.ofString "Markers") 316)), (some (.str (Str.ofString "Markers") 324)), (some (.builtin "object.__new__")), (some (.bool true))]⟩
noncomputable def o212 (P : Params) : Obj := ⟨(.type "dict"), none, .dict #[⟨PyData.keyHash P (Str.ofString "__module__"), .str (Str.ofString "__module__") 415, (.str (Str.ofString "emacs.objects") 406)⟩, ⟨PyData.keyHash P (Str.ofString "__firstlineno__"), .str (Str.ofString "__firstlineno__") 419, (.int 97 418)⟩, ⟨PyData.keyHash P (Str.ofString "shown"), .str (Str.ofString "shown") 426, (.ref 196)⟩, ⟨PyData.keyHash P (Str.ofString "kind"), .str (Str.ofString "kind") 433, (.ref 203)⟩, ⟨PyData.keyHash P (Str.ofString "same_as"), .str (Str.ofString "same_as") 441, (.ref 210)⟩, ⟨PyData.keyHash P (Str.ofString "__static_attributes__"), .str (Str.ofString "__static_attributes__") 442, (.ref 211)⟩, ⟨PyData.keyHash P (Str.ofString "__dict__"), .str (Str.ofString "__dict__") 444, (.ref 214)⟩, ⟨PyData.keyHash P (Str.ofString "__weakref__"), .str (Str.ofString "__weakref__") 446, (.ref 215)⟩, ⟨PyData.keyHash P (Str.ofString "__doc__"), .str (Str.ofString "__doc__") 447, .none⟩] 4, #[]⟩
noncomputable def o213 (_ : Params) : Obj := ⟨(.type "type"), none, .cls { name := (Str.ofString "Opaque"), bases := [(.type "object")], mro := [(.ref 213), (.type "object")], ns := 212, qualname := (Str.ofString "Opaque"), hasDict := true, slotNames := [], subclasses := [(.ref 319)], abstract := false, collection := none, hasDel := false }, #[none, none, (some (.str (Str.ofString "Opaque") 408)), (some (.str (Str.ofString "Opaque") 416)), (some (.builtin "object.__new__")), (some (.bool true))]⟩
noncomputable def o225 (_ : Params) : Obj := ⟨(.type "tuple"), none, .seq #[(.int 8 464)] 0, #[]⟩
noncomputable def o231 (_ : Params) : Obj := ⟨(.type "code"), none, .fields #[(.str (Str.ofString "__init__") 465), (.str (Str.ofString "Buffer.__init__") 466), (.str (Str.ofString "/claim/cut.py") 467), (.int 110 0), (.int 4 0), (.int 0 0), (.int 0 0), (.int 3 0), (.ref 226), (.bool true), (.int 181 0), (.ref 227), .none, (.ref 228), (.ref 229), (.ref 230), (.int 472 0), (.int 110 0), (.str (Str.ofString "/claim/cut.py") 473)], #[]⟩
noncomputable def p232 (_ : Params) : Obj := ⟨(.type "function"), none, .func { name := (Str.ofString "__init__"), qualname := (Str.ofString "Buffer.__init__"), params := (fnArgs (kMeth 8 0)), body := .stmts (fnBody (kMeth 8 0)), scope := (fnScope (kMeth 8 0)), globals := 3, closure := [], defaults := (.ref 225), kwdefaults := .none, doc := .none, pyModule := (.str (Str.ofString "emacs.buffer") 450), annotations := none, code := (.ref 231), closureTuple := .none, builtins := 0 }, #[]⟩
noncomputable def o232 (_ : Params) : Obj := by
  refine' (?f : (x : List Stmt) → (y : Arguments) → (z : Scope) → x = fnBody (kMeth 8 0) → y = fnArgs (kMeth 8 0) → z = fnScope (kMeth 8 0) → Obj) _ _ _ ?h1 ?h2 ?h3
  case f => exact fun x y z _ _ _ => ⟨(.type "function"), none, .func { name := (Str.ofString "__init__"), qualname := (Str.ofString "Buffer.__init__"), params := y, body := .stmts x, scope := z, globals := 3, closure := [], defaults := (.ref 225), kwdefaults := .none, doc := .none, pyModule := (.str (Str.ofString "emacs.buffer") 450), annotations := none, code := (.ref 231), closureTuple := .none, builtins := 0 }, #[]⟩
  case h1 => (conv => rhs; whnf)
  case h2 => (conv => rhs; whnf)
  case h3 => (conv => rhs; whnf)
noncomputable def o252 (_ : Params) : Obj := ⟨(.type "code"), none, .fields #[(.str (Str.ofString "begin") 489), (.str (Str.ofString "Buffer.begin") 490), (.str (Str.ofString "/claim/cut.py") 491), (.int 138 0), (.int 1 0), (.int 0 0), (.int 0 0), (.int 3 0), (.ref 247), (.bool true), (.int 181 0), (.ref 248), .none, (.ref 249), (.ref 250), (.ref 251), (.int 493 0), (.int 138 0), (.str (Str.ofString "/claim/cut.py") 494)], #[]⟩
noncomputable def p253 (_ : Params) : Obj := ⟨(.type "function"), none, .func { name := (Str.ofString "begin"), qualname := (Str.ofString "Buffer.begin"), params := (fnArgs (kMeth 8 3)), body := .stmts (fnBody (kMeth 8 3)), scope := (fnScope (kMeth 8 3)), globals := 3, closure := [], defaults := .none, kwdefaults := .none, doc := .none, pyModule := (.str (Str.ofString "emacs.buffer") 450), annotations := none, code := (.ref 252), closureTuple := .none, builtins := 0 }, #[]⟩
noncomputable def o253 (_ : Params) : Obj := by
  refine' (?f : (x : List Stmt) → (y : Arguments) → (z : Scope) → x = fnBody (kMeth 8 3) → y = fnArgs (kMeth 8 3) → z = fnScope (kMeth 8 3) → Obj) _ _ _ ?h1 ?h2 ?h3
  case f => exact fun x y z _ _ _ => ⟨(.type "function"), none, .func { name := (Str.ofString "begin"), qualname := (Str.ofString "Buffer.begin"), params := y, body := .stmts x, scope := z, globals := 3, closure := [], defaults := .none, kwdefaults := .none, doc := .none, pyModule := (.str (Str.ofString "emacs.buffer") 450), annotations := none, code := (.ref 252), closureTuple := .none, builtins := 0 }, #[]⟩
  case h1 => (conv => rhs; whnf)
  case h2 => (conv => rhs; whnf)
  case h3 => (conv => rhs; whnf)
noncomputable def o259 (_ : Params) : Obj := ⟨(.type "code"), none, .fields #[(.str (Str.ofString "end") 496), (.str (Str.ofString "Buffer.end") 497), (.str (Str.ofString "/claim/cut.py") 498), (.int 141 0), (.int 1 0), (.int 0 0), (.int 0 0), (.int 3 0), (.ref 254), (.bool true), (.int 181 0), (.ref 255), .none, (.ref 256), (.ref 257), (.ref 258), (.int 500 0), (.int 141 0), (.str (Str.ofString "/claim/cut.py") 501)], #[]⟩
noncomputable def p260 (_ : Params) : Obj := ⟨(.type "function"), none, .func { name := (Str.ofString "end"), qualname := (Str.ofString "Buffer.end"), params := (fnArgs (kMeth 8 4)), body := .stmts (fnBody (kMeth 8 4)), scope := (fnScope (kMeth 8 4)), globals := 3, closure := [], defaults := .none, kwdefaults := .none, doc := .none, pyModule := (.str (Str.ofString "emacs.buffer") 450), annotations := none, code := (.ref 259), closureTuple := .none, builtins := 0 }, #[]⟩
noncomputable def o260 (_ : Params) : Obj := by
  refine' (?f : (x : List Stmt) → (y : Arguments) → (z : Scope) → x = fnBody (kMeth 8 4) → y = fnArgs (kMeth 8 4) → z = fnScope (kMeth 8 4) → Obj) _ _ _ ?h1 ?h2 ?h3
  case f => exact fun x y z _ _ _ => ⟨(.type "function"), none, .func { name := (Str.ofString "end"), qualname := (Str.ofString "Buffer.end"), params := y, body := .stmts x, scope := z, globals := 3, closure := [], defaults := .none, kwdefaults := .none, doc := .none, pyModule := (.str (Str.ofString "emacs.buffer") 450), annotations := none, code := (.ref 259), closureTuple := .none, builtins := 0 }, #[]⟩
  case h1 => (conv => rhs; whnf)
  case h2 => (conv => rhs; whnf)
  case h3 => (conv => rhs; whnf)
noncomputable def o266 (_ : Params) : Obj := ⟨(.type "code"), none, .fields #[(.str (Str.ofString "size") 503), (.str (Str.ofString "Buffer.size") 504), (.str (Str.ofString "/claim/cut.py") 505), (.int 144 0), (.int 1 0), (.int 0 0), (.int 0 0), (.int 3 0), (.ref 261), (.bool true), (.int 181 0), (.ref 262), .none, (.ref 263), (.ref 264), (.ref 265), (.int 507 0), (.int 144 0), (.str (Str.ofString "/claim/cut.py") 508)], #[]⟩
noncomputable def p267 (_ : Params) : Obj := ⟨(.type "function"), none, .func { name := (Str.ofString "size"), qualname := (Str.ofString "Buffer.size"), params := (fnArgs (kMeth 8 5)), body := .stmts (fnBody (kMeth 8 5)), scope := (fnScope (kMeth 8 5)), globals := 3, closure := [], defaults := .none, kwdefaults := .none, doc := .none, pyModule := (.str (Str.ofString "emacs.buffer") 450), annotations := none, code := (.ref 266), closureTuple := .none, builtins := 0 }, #[]⟩
noncomputable def o267 (_ : Params) : Obj := by
  refine' (?f : (x : List Stmt) → (y : Arguments) → (z : Scope) → x = fnBody (kMeth 8 5) → y = fnArgs (kMeth 8 5) → z = fnScope (kMeth 8 5) → Obj) _ _ _ ?h1 ?h2 ?h3
  case f => exact fun x y z _ _ _ => ⟨(.type "function"), none, .func { name := (Str.ofString "size"), qualname := (Str.ofString "Buffer.size"), params := y, body := .stmts x, scope := z, globals := 3, closure := [], defaults := .none, kwdefaults := .none, doc := .none, pyModule := (.str (Str.ofString "emacs.buffer") 450), annotations := none, code := (.ref 266), closureTuple := .none, builtins := 0 }, #[]⟩
  case h1 => (conv => rhs; whnf)
  case h2 => (conv => rhs; whnf)
  case h3 => (conv => rhs; whnf)
noncomputable def o273 (_ : Params) : Obj := ⟨(.type "code"), none, .fields #[(.str (Str.ofString "code_at") 510), (.str (Str.ofString "Buffer.code_at") 511), (.str (Str.ofString "/claim/cut.py") 512), (.int 147 0), (.int 2 0), (.int 0 0), (.int 0 0), (.int 3 0), (.ref 268), (.bool true), (.int 181 0), (.ref 269), .none, (.ref 270), (.ref 271), (.ref 272), (.int 515 0), (.int 147 0), (.str (Str.ofString "/claim/cut.py") 516)], #[]⟩
noncomputable def p274 (_ : Params) : Obj := ⟨(.type "function"), none, .func { name := (Str.ofString "code_at"), qualname := (Str.ofString "Buffer.code_at"), params := (fnArgs (kMeth 8 6)), body := .stmts (fnBody (kMeth 8 6)), scope := (fnScope (kMeth 8 6)), globals := 3, closure := [], defaults := .none, kwdefaults := .none, doc := .none, pyModule := (.str (Str.ofString "emacs.buffer") 450), annotations := none, code := (.ref 273), closureTuple := .none, builtins := 0 }, #[]⟩
noncomputable def o274 (_ : Params) : Obj := by
  refine' (?f : (x : List Stmt) → (y : Arguments) → (z : Scope) → x = fnBody (kMeth 8 6) → y = fnArgs (kMeth 8 6) → z = fnScope (kMeth 8 6) → Obj) _ _ _ ?h1 ?h2 ?h3
  case f => exact fun x y z _ _ _ => ⟨(.type "function"), none, .func { name := (Str.ofString "code_at"), qualname := (Str.ofString "Buffer.code_at"), params := y, body := .stmts x, scope := z, globals := 3, closure := [], defaults := .none, kwdefaults := .none, doc := .none, pyModule := (.str (Str.ofString "emacs.buffer") 450), annotations := none, code := (.ref 273), closureTuple := .none, builtins := 0 }, #[]⟩
  case h1 => (conv => rhs; whnf)
  case h2 => (conv => rhs; whnf)
  case h3 => (conv => rhs; whnf)
noncomputable def o280 (_ : Params) : Obj := ⟨(.type "code"), none, .fields #[(.str (Str.ofString "codes") 518), (.str (Str.ofString "Buffer.codes") 519), (.str (Str.ofString "/claim/cut.py") 520), (.int 152 0), (.int 3 0), (.int 0 0), (.int 0 0), (.int 3 0), (.ref 275), (.bool true), (.int 181 0), (.ref 276), .none, (.ref 277), (.ref 278), (.ref 279), (.int 524 0), (.int 152 0), (.str (Str.ofString "/claim/cut.py") 525)], #[]⟩
noncomputable def p281 (_ : Params) : Obj := ⟨(.type "function"), none, .func { name := (Str.ofString "codes"), qualname := (Str.ofString "Buffer.codes"), params := (fnArgs (kMeth 8 7)), body := .stmts (fnBody (kMeth 8 7)), scope := (fnScope (kMeth 8 7)), globals := 3, closure := [], defaults := .none, kwdefaults := .none, doc := .none, pyModule := (.str (Str.ofString "emacs.buffer") 450), annotations := none, code := (.ref 280), closureTuple := .none, builtins := 0 }, #[]⟩
noncomputable def o281 (_ : Params) : Obj := by
  refine' (?f : (x : List Stmt) → (y : Arguments) → (z : Scope) → x = fnBody (kMeth 8 7) → y = fnArgs (kMeth 8 7) → z = fnScope (kMeth 8 7) → Obj) _ _ _ ?h1 ?h2 ?h3
  case f => exact fun x y z _ _ _ => ⟨(.type "function"), none, .func { name := (Str.ofString "codes"), qualname := (Str.ofString "Buffer.codes"), params := y, body := .stmts x, scope := z, globals := 3, closure := [], defaults := .none, kwdefaults := .none, doc := .none, pyModule := (.str (Str.ofString "emacs.buffer") 450), annotations := none, code := (.ref 280), closureTuple := .none, builtins := 0 }, #[]⟩
  case h1 => (conv => rhs; whnf)
  case h2 => (conv => rhs; whnf)
  case h3 => (conv => rhs; whnf)
noncomputable def o287 (_ : Params) : Obj := ⟨(.type "code"), none, .fields #[(.str (Str.ofString "goto") 527), (.str (Str.ofString "Buffer.goto") 528), (.str (Str.ofString "/claim/cut.py") 529), (.int 155 0), (.int 2 0), (.int 0 0), (.int 0 0), (.int 3 0), (.ref 282), (.bool true), (.int 181 0), (.ref 283), .none, (.ref 284), (.ref 285), (.ref 286), (.int 532 0), (.int 155 0), (.str (Str.ofString "/claim/cut.py") 533)], #[]⟩
noncomputable def p288 (_ : Params) : Obj := ⟨(.type "function"), none, .func { name := (Str.ofString "goto"), qualname := (Str.ofString "Buffer.goto"), params := (fnArgs (kMeth 8 8)), body := .stmts (fnBody (kMeth 8 8)), scope := (fnScope (kMeth 8 8)), globals := 3, closure := [], defaults := .none, kwdefaults := .none, doc := .none, pyModule := (.str (Str.ofString "emacs.buffer") 450), annotations := none, code := (.ref 287), closureTuple := .none, builtins := 0 }, #[]⟩
noncomputable def o288 (_ : Params) : Obj := by
  refine' (?f : (x : List Stmt) → (y : Arguments) → (z : Scope) → x = fnBody (kMeth 8 8) → y = fnArgs (kMeth 8 8) → z = fnScope (kMeth 8 8) → Obj) _ _ _ ?h1 ?h2 ?h3
  case f => exact fun x y z _ _ _ => ⟨(.type "function"), none, .func { name := (Str.ofString "goto"), qualname := (Str.ofString "Buffer.goto"), params := y, body := .stmts x, scope := z, globals := 3, closure := [], defaults := .none, kwdefaults := .none, doc := .none, pyModule := (.str (Str.ofString "emacs.buffer") 450), annotations := none, code := (.ref 287), closureTuple := .none, builtins := 0 }, #[]⟩
  case h1 => (conv => rhs; whnf)
  case h2 => (conv => rhs; whnf)
  case h3 => (conv => rhs; whnf)
noncomputable def o294 (_ : Params) : Obj := ⟨(.type "code"), none, .fields #[(.str (Str.ofString "tick") 535), (.str (Str.ofString "Buffer.tick") 536), (.str (Str.ofString "/claim/cut.py") 537), (.int 159 0), (.int 1 0), (.int 0 0), (.int 0 0), (.int 3 0), (.ref 289), (.bool true), (.int 181 0), (.ref 290), .none, (.ref 291), (.ref 292), (.ref 293), (.int 539 0), (.int 159 0), (.str (Str.ofString "/claim/cut.py") 540)], #[]⟩
noncomputable def p295 (_ : Params) : Obj := ⟨(.type "function"), none, .func { name := (Str.ofString "tick"), qualname := (Str.ofString "Buffer.tick"), params := (fnArgs (kMeth 8 9)), body := .stmts (fnBody (kMeth 8 9)), scope := (fnScope (kMeth 8 9)), globals := 3, closure := [], defaults := .none, kwdefaults := .none, doc := .none, pyModule := (.str (Str.ofString "emacs.buffer") 450), annotations := none, code := (.ref 294), closureTuple := .none, builtins := 0 }, #[]⟩
noncomputable def o295 (_ : Params) : Obj := by
  refine' (?f : (x : List Stmt) → (y : Arguments) → (z : Scope) → x = fnBody (kMeth 8 9) → y = fnArgs (kMeth 8 9) → z = fnScope (kMeth 8 9) → Obj) _ _ _ ?h1 ?h2 ?h3
  case f => exact fun x y z _ _ _ => ⟨(.type "function"), none, .func { name := (Str.ofString "tick"), qualname := (Str.ofString "Buffer.tick"), params := y, body := .stmts x, scope := z, globals := 3, closure := [], defaults := .none, kwdefaults := .none, doc := .none, pyModule := (.str (Str.ofString "emacs.buffer") 450), annotations := none, code := (.ref 294), closureTuple := .none, builtins := 0 }, #[]⟩
  case h1 => (conv => rhs; whnf)
  case h2 => (conv => rhs; whnf)
  case h3 => (conv => rhs; whnf)
noncomputable def o301 (_ : Params) : Obj := ⟨(.type "code"), none, .fields #[(.str (Str.ofString "is_modified") 542), (.str (Str.ofString "Buffer.is_modified") 543), (.str (Str.ofString "/claim/cut.py") 544), (.int 162 0), (.int 1 0), (.int 0 0), (.int 0 0), (.int 3 0), (.ref 296), (.bool true), (.int 181 0), (.ref 297), .none, (.ref 298), (.ref 299), (.ref 300), (.int 546 0), (.int 162 0), (.str (Str.ofString "/claim/cut.py") 547)], #[]⟩
noncomputable def p302 (_ : Params) : Obj := ⟨(.type "function"), none, .func { name := (Str.ofString "is_modified"), qualname := (Str.ofString "Buffer.is_modified"), params := (fnArgs (kMeth 8 10)), body := .stmts (fnBody (kMeth 8 10)), scope := (fnScope (kMeth 8 10)), globals := 3, closure := [], defaults := .none, kwdefaults := .none, doc := .none, pyModule := (.str (Str.ofString "emacs.buffer") 450), annotations := none, code := (.ref 301), closureTuple := .none, builtins := 0 }, #[]⟩
noncomputable def o302 (_ : Params) : Obj := by
  refine' (?f : (x : List Stmt) → (y : Arguments) → (z : Scope) → x = fnBody (kMeth 8 10) → y = fnArgs (kMeth 8 10) → z = fnScope (kMeth 8 10) → Obj) _ _ _ ?h1 ?h2 ?h3
  case f => exact fun x y z _ _ _ => ⟨(.type "function"), none, .func { name := (Str.ofString "is_modified"), qualname := (Str.ofString "Buffer.is_modified"), params := y, body := .stmts x, scope := z, globals := 3, closure := [], defaults := .none, kwdefaults := .none, doc := .none, pyModule := (.str (Str.ofString "emacs.buffer") 450), annotations := none, code := (.ref 301), closureTuple := .none, builtins := 0 }, #[]⟩
  case h1 => (conv => rhs; whnf)
  case h2 => (conv => rhs; whnf)
  case h3 => (conv => rhs; whnf)
noncomputable def o308 (_ : Params) : Obj := ⟨(.type "code"), none, .fields #[(.str (Str.ofString "set_modified") 549), (.str (Str.ofString "Buffer.set_modified") 550), (.str (Str.ofString "/claim/cut.py") 551), (.int 165 0), (.int 2 0), (.int 0 0), (.int 0 0), (.int 3 0), (.ref 303), (.bool true), (.int 181 0), (.ref 304), .none, (.ref 305), (.ref 306), (.ref 307), (.int 554 0), (.int 165 0), (.str (Str.ofString "/claim/cut.py") 555)], #[]⟩
noncomputable def p309 (_ : Params) : Obj := ⟨(.type "function"), none, .func { name := (Str.ofString "set_modified"), qualname := (Str.ofString "Buffer.set_modified"), params := (fnArgs (kMeth 8 11)), body := .stmts (fnBody (kMeth 8 11)), scope := (fnScope (kMeth 8 11)), globals := 3, closure := [], defaults := .none, kwdefaults := .none, doc := .none, pyModule := (.str (Str.ofString "emacs.buffer") 450), annotations := none, code := (.ref 308), closureTuple := .none, builtins := 0 }, #[]⟩
noncomputable def o309 (_ : Params) : Obj := by
  refine' (?f : (x : List Stmt) → (y : Arguments) → (z : Scope) → x = fnBody (kMeth 8 11) → y = fnArgs (kMeth 8 11) → z = fnScope (kMeth 8 11) → Obj) _ _ _ ?h1 ?h2 ?h3
  case f => exact fun x y z _ _ _ => ⟨(.type "function"), none, .func { name := (Str.ofString "set_modified"), qualname := (Str.ofString "Buffer.set_modified"), params := y, body := .stmts x, scope := z, globals := 3, closure := [], defaults := .none, kwdefaults := .none, doc := .none, pyModule := (.str (Str.ofString "emacs.buffer") 450), annotations := none, code := (.ref 308), closureTuple := .none, builtins := 0 }, #[]⟩
  case h1 => (conv => rhs; whnf)
  case h2 => (conv => rhs; whnf)
  case h3 => (conv => rhs; whnf)
noncomputable def o315 (_ : Params) : Obj := ⟨(.type "code"), none, .fields #[(.str (Str.ofString "touch") 557), (.str (Str.ofString "Buffer.touch") 558), (.str (Str.ofString "/claim/cut.py") 559), (.int 171 0), (.int 2 0), (.int 0 0), (.int 0 0), (.int 3 0), (.ref 310), (.bool true), (.int 181 0), (.ref 311), .none, (.ref 312), (.ref 313), (.ref 314), (.int 562 0), (.int 171 0), (.str (Str.ofString "/claim/cut.py") 563)], #[]⟩
noncomputable def p316 (_ : Params) : Obj := ⟨(.type "function"), none, .func { name := (Str.ofString "touch"), qualname := (Str.ofString "Buffer.touch"), params := (fnArgs (kMeth 8 12)), body := .stmts (fnBody (kMeth 8 12)), scope := (fnScope (kMeth 8 12)), globals := 3, closure := [], defaults := .none, kwdefaults := .none, doc := .none, pyModule := (.str (Str.ofString "emacs.buffer") 450), annotations := none, code := (.ref 315), closureTuple := .none, builtins := 0 }, #[]⟩
noncomputable def o316 (_ : Params) : Obj := by
  refine' (?f : (x : List Stmt) → (y : Arguments) → (z : Scope) → x = fnBody (kMeth 8 12) → y = fnArgs (kMeth 8 12) → z = fnScope (kMeth 8 12) → Obj) _ _ _ ?h1 ?h2 ?h3
  case f => exact fun x y z _ _ _ => ⟨(.type "function"), none, .func { name := (Str.ofString "touch"), qualname := (Str.ofString "Buffer.touch"), params := y, body := .stmts x, scope := z, globals := 3, closure := [], defaults := .none, kwdefaults := .none, doc := .none, pyModule := (.str (Str.ofString "emacs.buffer") 450), annotations := none, code := (.ref 315), closureTuple := .none, builtins := 0 }, #[]⟩
  case h1 => (conv => rhs; whnf)
  case h2 => (conv => rhs; whnf)
  case h3 => (conv => rhs; whnf)
noncomputable def o318 (P : Params) : Obj := ⟨(.type "dict"), none, .dict #[⟨PyData.keyHash P (Str.ofString "__module__"), .str (Str.ofString "__module__") 459, (.str (Str.ofString "emacs.buffer") 450)⟩, ⟨PyData.keyHash P (Str.ofString "__firstlineno__"), .str (Str.ofString "__firstlineno__") 463, (.int 108 462)⟩, ⟨PyData.keyHash P (Str.ofString "__init__"), .str (Str.ofString "__init__") 474, (.ref 232)⟩, ⟨PyData.keyHash P (Str.ofString "shown"), .str (Str.ofString "shown") 481, (.ref 239)⟩, ⟨PyData.keyHash P (Str.ofString "kind"), .str (Str.ofString "kind") 488, (.ref 246)⟩, ⟨PyData.keyHash P (Str.ofString "begin"), .str (Str.ofString "begin") 495, (.ref 253)⟩, ⟨PyData.keyHash P (Str.ofString "end"), .str (Str.ofString "end") 502, (.ref 260)⟩, ⟨PyData.keyHash P (Str.ofString "size"), .str (Str.ofString "size") 509, (.ref 267)⟩, ⟨PyData.keyHash P (Str.ofString "code_at"), .str (Str.ofString "code_at") 517, (.ref 274)⟩, ⟨PyData.keyHash P (Str.ofString "codes"), .str (Str.ofString "codes") 526, (.ref 281)⟩, ⟨PyData.keyHash P (Str.ofString "goto"), .str (Str.ofString "goto") 534, (.ref 288)⟩, ⟨PyData.keyHash P (Str.ofString "tick"), .str (Str.ofString "tick") 541, (.ref 295)⟩, ⟨PyData.keyHash P (Str.ofString "is_modified"), .str (Str.ofString "is_modified") 548, (.ref 302)⟩, ⟨PyData.keyHash P (Str.ofString "set_modified"), .str (Str.ofString "set_modified") 556, (.ref 309)⟩, ⟨PyData.keyHash P (Str.ofString "touch"), .str (Str.ofString "touch") 564, (.ref 316)⟩, ⟨PyData.keyHash P (Str.ofString "__static_attributes__"), .str (Str.ofString "__static_attributes__") 585, (.ref 317)⟩, ⟨PyData.keyHash P (Str.ofString "__doc__"), .str (Str.ofString "__doc__") 586, .none⟩] 2, #[]⟩
noncomputable def o319 (_ : Params) : Obj := ⟨(.type "type"), none, .cls { name := (Str.ofString "Buffer"), bases := [(.ref 213)], mro := [(.ref 319), (.ref 213), (.type "object")], ns := 318, qualname := (Str.ofString "Buffer"), hasDict := true, slotNames := [], subclasses := [], abstract := false, collection := none, hasDel := false }, #[(some (.ref 218)), none, (some (.str (Str.ofString "Buffer") 452)), (some (.str (Str.ofString "Buffer") 460)), (some (.builtin "object.__new__")), (some (.bool true))]⟩
noncomputable def o325 (_ : Params) : Obj := ⟨(.type "code"), none, .fields #[(.str (Str.ofString "_law_deck") 591), (.str (Str.ofString "_law_deck") 592), (.str (Str.ofString "/claim/cut.py") 593), (.int 176 0), (.int 1 0), (.int 0 0), (.int 0 0), (.int 3 0), (.ref 322), (.bool true), (.int 181 0), (.ref 323), .none, .none, .none, (.ref 324), (.int 594 0), (.int 176 0), (.str (Str.ofString "/claim/cut.py") 595)], #[]⟩
noncomputable def p326 (_ : Params) : Obj := ⟨(.type "function"), none, .func { name := (Str.ofString "_law_deck"), qualname := (Str.ofString "_law_deck"), params := (fnArgs (kTop 10)), body := .stmts (fnBody (kTop 10)), scope := (fnScope (kTop 10)), globals := 3, closure := [], defaults := .none, kwdefaults := .none, doc := .none, pyModule := (.str (Str.ofString "law_on0067_01") 589), annotations := none, code := (.ref 325), closureTuple := .none, builtins := 0 }, #[]⟩
noncomputable def o326 (_ : Params) : Obj := by
  refine' (?f : (x : List Stmt) → (y : Arguments) → (z : Scope) → x = fnBody (kTop 10) → y = fnArgs (kTop 10) → z = fnScope (kTop 10) → Obj) _ _ _ ?h1 ?h2 ?h3
  case f => exact fun x y z _ _ _ => ⟨(.type "function"), none, .func { name := (Str.ofString "_law_deck"), qualname := (Str.ofString "_law_deck"), params := y, body := .stmts x, scope := z, globals := 3, closure := [], defaults := .none, kwdefaults := .none, doc := .none, pyModule := (.str (Str.ofString "law_on0067_01") 589), annotations := none, code := (.ref 325), closureTuple := .none, builtins := 0 }, #[]⟩
  case h1 => (conv => rhs; whnf)
  case h2 => (conv => rhs; whnf)
  case h3 => (conv => rhs; whnf)
noncomputable def o332 (_ : Params) : Obj := ⟨(.type "code"), none, .fields #[(.str (Str.ofString "_law_draw") 597), (.str (Str.ofString "_law_draw") 598), (.str (Str.ofString "/claim/cut.py") 599), (.int 178 0), (.int 2 0), (.int 0 0), (.int 0 0), (.int 3 0), (.ref 327), (.bool true), (.int 181 0), (.ref 328), .none, (.ref 329), (.ref 330), (.ref 331), (.int 603 0), (.int 178 0), (.str (Str.ofString "/claim/cut.py") 604)], #[]⟩
noncomputable def p333 (_ : Params) : Obj := ⟨(.type "function"), none, .func { name := (Str.ofString "_law_draw"), qualname := (Str.ofString "_law_draw"), params := (fnArgs (kTop 11)), body := .stmts (fnBody (kTop 11)), scope := (fnScope (kTop 11)), globals := 3, closure := [], defaults := .none, kwdefaults := .none, doc := .none, pyModule := (.str (Str.ofString "law_on0067_01") 589), annotations := none, code := (.ref 332), closureTuple := .none, builtins := 0 }, #[]⟩
noncomputable def o333 (_ : Params) : Obj := by
  refine' (?f : (x : List Stmt) → (y : Arguments) → (z : Scope) → x = fnBody (kTop 11) → y = fnArgs (kTop 11) → z = fnScope (kTop 11) → Obj) _ _ _ ?h1 ?h2 ?h3
  case f => exact fun x y z _ _ _ => ⟨(.type "function"), none, .func { name := (Str.ofString "_law_draw"), qualname := (Str.ofString "_law_draw"), params := y, body := .stmts x, scope := z, globals := 3, closure := [], defaults := .none, kwdefaults := .none, doc := .none, pyModule := (.str (Str.ofString "law_on0067_01") 589), annotations := none, code := (.ref 332), closureTuple := .none, builtins := 0 }, #[]⟩
  case h1 => (conv => rhs; whnf)
  case h2 => (conv => rhs; whnf)
  case h3 => (conv => rhs; whnf)
noncomputable def o339 (_ : Params) : Obj := ⟨(.type "code"), none, .fields #[(.str (Str.ofString "_law_is_right") 606), (.str (Str.ofString "_law_is_right") 607), (.str (Str.ofString "/claim/cut.py") 608), (.int 184 0), (.int 4 0), (.int 0 0), (.int 0 0), (.int 3 0), (.ref 334), (.bool true), (.int 181 0), (.ref 335), .none, (.ref 336), (.ref 337), (.ref 338), (.int 617 0), (.int 184 0), (.str (Str.ofString "/claim/cut.py") 618)], #[]⟩
noncomputable def p340 (_ : Params) : Obj := ⟨(.type "function"), none, .func { name := (Str.ofString "_law_is_right"), qualname := (Str.ofString "_law_is_right"), params := (fnArgs (kTop 12)), body := .stmts (fnBody (kTop 12)), scope := (fnScope (kTop 12)), globals := 3, closure := [], defaults := .none, kwdefaults := .none, doc := .none, pyModule := (.str (Str.ofString "law_on0067_01") 589), annotations := none, code := (.ref 339), closureTuple := .none, builtins := 0 }, #[]⟩
noncomputable def o340 (_ : Params) : Obj := by
  refine' (?f : (x : List Stmt) → (y : Arguments) → (z : Scope) → x = fnBody (kTop 12) → y = fnArgs (kTop 12) → z = fnScope (kTop 12) → Obj) _ _ _ ?h1 ?h2 ?h3
  case f => exact fun x y z _ _ _ => ⟨(.type "function"), none, .func { name := (Str.ofString "_law_is_right"), qualname := (Str.ofString "_law_is_right"), params := y, body := .stmts x, scope := z, globals := 3, closure := [], defaults := .none, kwdefaults := .none, doc := .none, pyModule := (.str (Str.ofString "law_on0067_01") 589), annotations := none, code := (.ref 339), closureTuple := .none, builtins := 0 }, #[]⟩
  case h1 => (conv => rhs; whnf)
  case h2 => (conv => rhs; whnf)
  case h3 => (conv => rhs; whnf)
noncomputable def o344 (_ : Params) : Obj := ⟨(.type "code"), none, .fields #[(.str (Str.ofString "_law_edit") 620), (.str (Str.ofString "_law_edit") 621), (.str (Str.ofString "/claim/cut.py") 622), (.int 196 0), (.int 3 0), (.int 0 0), (.int 0 0), (.int 3 0), (.ref 341), (.bool true), (.int 181 0), (.ref 342), .none, .none, .none, (.ref 343), (.int 623 0), (.int 196 0), (.str (Str.ofString "/claim/cut.py") 624)], #[]⟩
noncomputable def p345 (_ : Params) : Obj := ⟨(.type "function"), none, .func { name := (Str.ofString "_law_edit"), qualname := (Str.ofString "_law_edit"), params := (fnArgs (kTop 13)), body := .stmts (fnBody (kTop 13)), scope := (fnScope (kTop 13)), globals := 3, closure := [], defaults := .none, kwdefaults := .none, doc := .none, pyModule := (.str (Str.ofString "law_on0067_01") 589), annotations := none, code := (.ref 344), closureTuple := .none, builtins := 0 }, #[]⟩
noncomputable def o345 (_ : Params) : Obj := by
  refine' (?f : (x : List Stmt) → (y : Arguments) → (z : Scope) → x = fnBody (kTop 13) → y = fnArgs (kTop 13) → z = fnScope (kTop 13) → Obj) _ _ _ ?h1 ?h2 ?h3
  case f => exact fun x y z _ _ _ => ⟨(.type "function"), none, .func { name := (Str.ofString "_law_edit"), qualname := (Str.ofString "_law_edit"), params := y, body := .stmts x, scope := z, globals := 3, closure := [], defaults := .none, kwdefaults := .none, doc := .none, pyModule := (.str (Str.ofString "law_on0067_01") 589), annotations := none, code := (.ref 344), closureTuple := .none, builtins := 0 }, #[]⟩
  case h1 => (conv => rhs; whnf)
  case h2 => (conv => rhs; whnf)
  case h3 => (conv => rhs; whnf)
noncomputable def o351 (_ : Params) : Obj := ⟨(.type "code"), none, .fields #[(.str (Str.ofString "_law_counted") 626), (.str (Str.ofString "_law_counted") 627), (.str (Str.ofString "/claim/cut.py") 628), (.int 205 0), (.int 3 0), (.int 0 0), (.int 0 0), (.int 3 0), (.ref 346), (.bool true), (.int 181 0), (.ref 347), .none, (.ref 348), (.ref 349), (.ref 350), (.int 633 0), (.int 205 0), (.str (Str.ofString "/claim/cut.py") 634)], #[]⟩
noncomputable def p352 (_ : Params) : Obj := ⟨(.type "function"), none, .func { name := (Str.ofString "_law_counted"), qualname := (Str.ofString "_law_counted"), params := (fnArgs (kTop 14)), body := .stmts (fnBody (kTop 14)), scope := (fnScope (kTop 14)), globals := 3, closure := [], defaults := .none, kwdefaults := .none, doc := .none, pyModule := (.str (Str.ofString "law_on0067_01") 589), annotations := none, code := (.ref 351), closureTuple := .none, builtins := 0 }, #[]⟩
noncomputable def o352 (_ : Params) : Obj := by
  refine' (?f : (x : List Stmt) → (y : Arguments) → (z : Scope) → x = fnBody (kTop 14) → y = fnArgs (kTop 14) → z = fnScope (kTop 14) → Obj) _ _ _ ?h1 ?h2 ?h3
  case f => exact fun x y z _ _ _ => ⟨(.type "function"), none, .func { name := (Str.ofString "_law_counted"), qualname := (Str.ofString "_law_counted"), params := y, body := .stmts x, scope := z, globals := 3, closure := [], defaults := .none, kwdefaults := .none, doc := .none, pyModule := (.str (Str.ofString "law_on0067_01") 589), annotations := none, code := (.ref 351), closureTuple := .none, builtins := 0 }, #[]⟩
  case h1 => (conv => rhs; whnf)
  case h2 => (conv => rhs; whnf)
  case h3 => (conv => rhs; whnf)
noncomputable def o358 (_ : Params) : Obj := ⟨(.type "code"), none, .fields #[(.str (Str.ofString "law") 636), (.str (Str.ofString "law") 637), (.str (Str.ofString "/claim/cut.py") 638), (.int 220 0), (.int 1 0), (.int 0 0), (.int 0 0), (.int 3 0), (.ref 353), (.bool true), (.int 181 0), (.ref 354), .none, (.ref 355), (.ref 356), (.ref 357), (.int 649 0), (.int 220 0), (.str (Str.ofString "/claim/cut.py") 650)], #[]⟩
noncomputable def p359 (_ : Params) : Obj := ⟨(.type "function"), none, .func { name := (Str.ofString "law"), qualname := (Str.ofString "law"), params := (fnArgs (kTop 15)), body := .stmts (fnBody (kTop 15)), scope := (fnScope (kTop 15)), globals := 3, closure := [], defaults := .none, kwdefaults := .none, doc := .none, pyModule := (.str (Str.ofString "law_on0067_01") 589), annotations := none, code := (.ref 358), closureTuple := .none, builtins := 0 }, #[]⟩
noncomputable def o359 (_ : Params) : Obj := by
  refine' (?f : (x : List Stmt) → (y : Arguments) → (z : Scope) → x = fnBody (kTop 15) → y = fnArgs (kTop 15) → z = fnScope (kTop 15) → Obj) _ _ _ ?h1 ?h2 ?h3
  case f => exact fun x y z _ _ _ => ⟨(.type "function"), none, .func { name := (Str.ofString "law"), qualname := (Str.ofString "law"), params := y, body := .stmts x, scope := z, globals := 3, closure := [], defaults := .none, kwdefaults := .none, doc := .none, pyModule := (.str (Str.ofString "law_on0067_01") 589), annotations := none, code := (.ref 358), closureTuple := .none, builtins := 0 }, #[]⟩
  case h1 => (conv => rhs; whnf)
  case h2 => (conv => rhs; whnf)
  case h3 => (conv => rhs; whnf)
noncomputable def KKp (P : Params) : Frag := (nat_lit 2, o2 P) :: (nat_lit 3, o3 P) :: (nat_lit 34, o34 P) :: (nat_lit 35, p35 P) :: (nat_lit 41, o41 P) :: (nat_lit 42, p42 P) :: (nat_lit 48, o48 P) :: (nat_lit 49, p49 P) :: (nat_lit 55, o55 P) :: (nat_lit 56, p56 P) :: (nat_lit 62, o62 P) :: (nat_lit 63, p63 P) :: (nat_lit 69, o69 P) :: (nat_lit 70, p70 P) :: (nat_lit 76, o76 P) :: (nat_lit 77, p77 P) :: (nat_lit 83, o83 P) :: (nat_lit 84, p84 P) :: (nat_lit 107, o107 P) :: (nat_lit 108, o108 P) :: (nat_lit 125, o125 P) :: (nat_lit 126, p126 P) :: (nat_lit 177, o177 P) :: (nat_lit 178, o178 P) :: (nat_lit 212, o212 P) :: (nat_lit 213, o213 P) :: (nat_lit 225, o225 P) :: (nat_lit 231, o231 P) :: (nat_lit 232, p232 P) :: (nat_lit 252, o252 P) :: (nat_lit 253, p253 P) :: (nat_lit 259, o259 P) :: (nat_lit 260, p260 P) :: (nat_lit 266, o266 P) :: (nat_lit 267, p267 P) :: (nat_lit 273, o273 P) :: (nat_lit 274, p274 P) :: (nat_lit 280, o280 P) :: (nat_lit 281, p281 P) :: (nat_lit 287, o287 P) :: (nat_lit 288, p288 P) :: (nat_lit 294, o294 P) :: (nat_lit 295, p295 P) :: (nat_lit 301, o301 P) :: (nat_lit 302, p302 P) :: (nat_lit 308, o308 P) :: (nat_lit 309, p309 P) :: (nat_lit 315, o315 P) :: (nat_lit 316, p316 P) :: (nat_lit 318, o318 P) :: (nat_lit 319, o319 P) :: (nat_lit 325, o325 P) :: (nat_lit 326, p326 P) :: (nat_lit 332, o332 P) :: (nat_lit 333, p333 P) :: (nat_lit 339, o339 P) :: (nat_lit 340, p340 P) :: (nat_lit 344, o344 P) :: (nat_lit 345, p345 P) :: (nat_lit 351, o351 P) :: (nat_lit 352, p352 P) :: (nat_lit 358, o358 P) :: (nat_lit 359, p359 P) :: []
noncomputable def KK (P : Params) : Frag := (nat_lit 2, o2 P) :: (nat_lit 3, o3 P) :: (nat_lit 34, o34 P) :: (nat_lit 35, o35 P) :: (nat_lit 41, o41 P) :: (nat_lit 42, o42 P) :: (nat_lit 48, o48 P) :: (nat_lit 49, o49 P) :: (nat_lit 55, o55 P) :: (nat_lit 56, o56 P) :: (nat_lit 62, o62 P) :: (nat_lit 63, o63 P) :: (nat_lit 69, o69 P) :: (nat_lit 70, o70 P) :: (nat_lit 76, o76 P) :: (nat_lit 77, o77 P) :: (nat_lit 83, o83 P) :: (nat_lit 84, o84 P) :: (nat_lit 107, o107 P) :: (nat_lit 108, o108 P) :: (nat_lit 125, o125 P) :: (nat_lit 126, o126 P) :: (nat_lit 177, o177 P) :: (nat_lit 178, o178 P) :: (nat_lit 212, o212 P) :: (nat_lit 213, o213 P) :: (nat_lit 225, o225 P) :: (nat_lit 231, o231 P) :: (nat_lit 232, o232 P) :: (nat_lit 252, o252 P) :: (nat_lit 253, o253 P) :: (nat_lit 259, o259 P) :: (nat_lit 260, o260 P) :: (nat_lit 266, o266 P) :: (nat_lit 267, o267 P) :: (nat_lit 273, o273 P) :: (nat_lit 274, o274 P) :: (nat_lit 280, o280 P) :: (nat_lit 281, o281 P) :: (nat_lit 287, o287 P) :: (nat_lit 288, o288 P) :: (nat_lit 294, o294 P) :: (nat_lit 295, o295 P) :: (nat_lit 301, o301 P) :: (nat_lit 302, o302 P) :: (nat_lit 308, o308 P) :: (nat_lit 309, o309 P) :: (nat_lit 315, o315 P) :: (nat_lit 316, o316 P) :: (nat_lit 318, o318 P) :: (nat_lit 319, o319 P) :: (nat_lit 325, o325 P) :: (nat_lit 326, o326 P) :: (nat_lit 332, o332 P) :: (nat_lit 333, o333 P) :: (nat_lit 339, o339 P) :: (nat_lit 340, o340 P) :: (nat_lit 344, o344 P) :: (nat_lit 345, o345 P) :: (nat_lit 351, o351 P) :: (nat_lit 352, o352 P) :: (nat_lit 358, o358 P) :: (nat_lit 359, o359 P) :: []
def KKas : List Addr := 2 :: 3 :: 34 :: 35 :: 41 :: 42 :: 48 :: 49 :: 55 :: 56 :: 62 :: 63 :: 69 :: 70 :: 76 :: 77 :: 83 :: 84 :: 107 :: 108 :: 125 :: 126 :: 177 :: 178 :: 212 :: 213 :: 225 :: 231 :: 232 :: 252 :: 253 :: 259 :: 260 :: 266 :: 267 :: 273 :: 274 :: 280 :: 281 :: 287 :: 288 :: 294 :: 295 :: 301 :: 302 :: 308 :: 309 :: 315 :: 316 :: 318 :: 319 :: 325 :: 326 :: 332 :: 333 :: 339 :: 340 :: 344 :: 345 :: 351 :: 352 :: 358 :: 359 :: []
theorem KK_eq (P : Params) : KK P = KKp P := by kernel_rfl
theorem KKas_eq (P : Params) : KKas = (KK P).map (·.1) := by kernel_rfl
-- the top's run over a tree of objects, from the library's booted state
def topRunT (tb : String → Option Builtin) (p : Program) (w : World) (n₀ : Nat) (ann : Option Value) : Nat → SharedT → Thread → Option SharedT
  | 0, _, _ => none
  | n + 1, s, t => match through t with
    | true => some s
    | false => match stepOk n₀ ann t with
      | false => none
      | true => match stepT (denote tb) p w s t with
        | some (s', t') => topRunT tb p w n₀ ann n s' t'
        | none => none
theorem topRunT_of {tb : String → Option Builtin} {p : Program} {w : World} {n₀ : Nat} {ann : Option Value} : ∀ {n : Nat} {s s' : SharedT} {t : Thread},
    topRunT tb p w n₀ ann n s t = some s' → topRun tb p w n₀ ann n s.abs t = some s'.abs
  | 0, _, _, _, h => by cases h
  | n + 1, s, s', t, h => by
    unfold topRunT at h
    unfold topRun
    cases ht : through t with
    | true => rw [ht] at h; cases h; rfl
    | false =>
      rw [ht] at h
      cases hk : stepOk n₀ ann t with
      | false => rw [hk] at h; cases h
      | true =>
        rw [hk] at h
        cases hs : stepT (denote tb) p w s t with
        | none => rw [hs] at h; cases h
        | some r => obtain ⟨s₂, t₂⟩ := r; rw [hs] at h; rw [stepT_spec hs]; exact topRunT_of h
def btc : Nat → List Obj → BT → Option BT
  | _, [], t => some t
  | n, o :: os, t => match ((t.ins n o).get n).isSome with
    | true => btc (n + 1) os (t.ins n o)
    | false => none
theorem btc_of {life : Life} : ∀ {os : List Obj} {n : Nat} {t t' : BT}, btc n os t = some t' → (absHeap t' (n + os.length) life).objs = (absHeap t n life).objs ++ os.toArray
  | [], n, t, t', h => by cases h; simp
  | o :: os, n, t, t', h => by
    unfold btc at h
    cases e : ((t.ins n o).get n).isSome with
    | false => rw [e] at h; cases h
    | true =>
      rw [e] at h
      have := btc_of (life := life) h
      rw [List.length_cons, show n + (os.length + 1) = n + 1 + os.length by omega, this, absHeap_ins e]
      show (absHeap t n life).objs.push o ++ os.toArray = _
      simp
theorem btc_heap {h : Heap} {t : BT} (e : btc 0 h.objs.toList .nil = some t) : absHeap t h.objs.size h.life = h := by
  have q := btc_of (life := h.life) e
  rw [Nat.zero_add, Array.length_toList] at q
  have z : (absHeap BT.nil 0 h.life).objs = #[] := rfl
  rw [z] at q
  obtain ⟨os, life⟩ := h
  show Heap.mk _ _ = _
  refine congrArg (Heap.mk · life) ?_
  simpa [absHeap] using q
noncomputable def openT (p : Program) (w : World) (N m₀ : Nat) : Option (Shared × SharedT) :=
  (fencedOpening treeTable p w N).bind fun s₀ => match s₀.heap.isNs mainGlobals && s₀.gens.size == 0 with
    | true => match Nat.beq s₀.heap.objs.size m₀ with
      | true => (btc 0 s₀.heap.objs.toList .nil).bind fun T =>
        (topRunT treeTable p w m₀ (s₀.heap.nsMap mainGlobals "__annotations__") N ⟨T, m₀, s₀.heap.life, s₀.gens, s₀.drawn, s₀.toks, s₀.os⟩ (topStub p)).map fun s => (s₀, s)
      | false => none
    | false => none
noncomputable def lookT {α : Type} (p q : Program) (loose : List PySem.Str) (Xt : Shared → Bool) (Yf : Shared → α) (s₀ s : Shared) :=
  (staticsOk (importedModules p.main.body) s₀.heap s.heap && namesBound p s.heap && gensDone s && laidKept s₀.heap s.heap,
    openSeen q loose (importedModules p.main.body) Xt true s, Yf s)
theorem left_tree {p q : Program} {loose : List PySem.Str} {Xt : Shared → Bool} {α : Type} {Yf : Shared → α} {Ya : World → α} {N m₀ : Nat}
    (run : ∀ w : World, (openT p w N m₀).map (fun r => lookT p q loose Xt Yf r.1 r.2.abs) = some (true, openGood q loose, Ya w)) :
    LeftO p q loose Xt Yf Ya N := fun w => by
  obtain ⟨⟨s₀, s₁⟩, r1, r2⟩ := Option.map_eq_some_iff.mp (run w)
  obtain ⟨l1, l2, l3⟩ : _ ∧ _ ∧ _ := by simpa only [lookT, Prod.mk.injEq] using r2
  obtain ⟨s₀', e1, r3⟩ := Option.bind_eq_some_iff.mp r1
  cases z1 : s₀'.heap.isNs mainGlobals && s₀'.gens.size == 0 with
  | false => rw [z1] at r3; cases r3
  | true =>
    rw [z1] at r3
    cases z2 : Nat.beq s₀'.heap.objs.size m₀ with
    | false => rw [z2] at r3; cases r3
    | true =>
      rw [z2] at r3
      have z2 := Nat.eq_of_beq_eq_true z2
      subst z2
      obtain ⟨T, e2, r4⟩ := Option.bind_eq_some_iff.mp r3
      obtain ⟨s', r5, r6⟩ := Option.map_eq_some_iff.mp r4
      obtain ⟨rfl, rfl⟩ := Prod.mk.inj r6
      have r := topRunT_of r5
      have ea : (SharedT.mk T s₀'.heap.objs.size s₀'.heap.life s₀'.gens s₀'.drawn s₀'.toks s₀'.os).abs = s₀' := by
        unfold SharedT.abs
        dsimp only
        rw [btc_heap e2]
      rw [ea] at r
      have t : topFrom treeTable p w N s₀' = some s'.abs := by
        unfold topFrom
        rw [z1, r]
        show (match staticsOk (importedModules p.main.body) s₀'.heap s'.abs.heap && namesBound p s'.abs.heap && gensDone s'.abs && laidKept s₀'.heap s'.abs.heap with | true => _ | false => _) = _
        rw [l1]
      unfold openEnds
      rw [e1]
      show (topFrom treeTable p w N _).map _ = _
      rw [t]
      exact congrArg some (Prod.ext l2 l3)
noncomputable def vw : Program := view PySem.Challenge.pw_on0067_01 [15]
def lo : List PySem.Str := [Str.ofString "_wall", Str.ofString "GapText", Str.ofString "Markers", Str.ofString "Opaque", Str.ofString "Buffer", Str.ofString "_law_deck", Str.ofString "_law_draw", Str.ofString "_law_is_right", Str.ofString "_law_edit", Str.ofString "_law_counted"]
noncomputable def run2 (w : World) := (openT PySem.Challenge.pw_on0067_01 w 4514 11).map fun r =>
  lookT PySem.Challenge.pw_on0067_01 vw lo (fun s => xlAt vw [] s && recOk [] s) (fun s => KKas.map s.heap.get?) r.1 r.2.abs
noncomputable def good2 (w : World) := some (true, openGood vw lo, (KKp w.params).map fun p => some p.2)
lay_quick Mine.run2
lay_quick Mine.good2
theorem run2_q (w : World) : PySem.W.Fast.tw18170975677420998313 w = PySem.W.Fast.tw14205110778110953275 w := by kernel_rfl
theorem run2_ok (w : World) : run2 w = good2 w := by
  rw [PySem.W.Fast.te18170975677420998313, PySem.W.Fast.te14205110778110953275]; exact run2_q w
theorem left1 : LeftO PySem.Challenge.pw_on0067_01 vw lo (fun s => xlAt vw [] s && recOk [] s) (kHook KK KKas KKas_eq).obs (kHook KK KKas KKas_eq).val 4514 :=
  left_tree fun w => by
    have h := run2_ok w
    unfold run2 good2 at h
    rw [← KK_eq] at h
    exact h
theorem fill_KK : (PySem.Challenge.rw_on0067_01 = PySem.Challenge.rw_on0067_01) ∧ (KK = KK) := by
  k_fill
  exact ⟨rfl, rfl⟩
section
open PySem PySem.W PyProof.Rows PySem.Calls
section
variable {prog : Program} {w : World} {A : Around} {E : Value → Shared → Prop} {s : Shared}
def splice (items new : Array Value) (lo hi : Option Int) : Array Value :=
  items.extract 0 (sliceBounds lo hi none items.size).1.toNat ++ new ++ items.extract (max (sliceBounds lo hi none items.size).1 (sliceBounds lo hi none items.size).2.1).toNat items.size
theorem items_at {a : Addr} {o : Obj} {items : Array Value} {n : Nat} {Q : Array Value → Shared → Prop} (ho : s.heap.get? a = some o) (hd : o.data = .seq items n)
    (h : Q items s) : wpAny (model prog w) A (Builtin.List.listItems (.ref a)) Q E s := by
  unfold Builtin.List.listItems
  exact wpAny_bind (wpAny_seqItems ho hd (wpAny_pure h))
theorem setSlice_at {l sl b : Addr} {items new : Array Value} {n : Nat} {vl vu : Value} {lo hi : Option Int} {Q : Unit → Shared → Prop}
    (ho : s.heap.get? l = some (listOf items n)) (hs : s.heap.IsSliceOf sl vl vu .none) (pl : IsPart vl lo) (pu : IsPart vu hi)
    (hb : s.heap.IsList b new) (hne : l ≠ b) (hz : items.size + new.size ≤ sizeLine)
    (hQ : Q () { s with heap := s.heap.update l (Obj.mapSeq fun xs => xs.extract 0 (sliceBounds lo hi none items.size).1.toNat ++ new ++ xs.extract (max (sliceBounds lo hi none items.size).1 (sliceBounds lo hi none items.size).2.1).toNat xs.size) }) :
    wpAny (model prog w) A (setItem (.ref l) (.ref sl) (.ref b)) Q E s := by
  have hl : s.heap.IsList l items := PySem.IsL.isList (n := n) ho
  obtain ⟨os, hos, hcs, hds⟩ := id hs
  obtain ⟨ob, hob, hcb, nb, hdb⟩ := id hb
  have hTs : s.TypeIs (.ref sl) "slice" := ⟨os, hos, hcs⟩
  unfold setItem
  try with_reducible refine wpAny_holding ?_
  first | refine wpAny_bind (wpAny_pure ?_) | skip
  refine wpAny_bind (wpAny_sequenceKey hl.typeIs (by decide) ?_)
  refine wpAny_bind (wpAny_callSpecial?_slot (name := Str.ofString "__setitem__") hl.typeIs slot_list_setitem
    (wpAny_call_entry slot_list_setitem hl.typeIs entry_list_setitem ?_ (args_list_setitem _ _ _)))
  show wpAny _ _ (Builtin.List.listSubscript? (.ref sl) >>= _) _ _ s
  refine wpAny_bind ?_
  unfold Builtin.List.listSubscript?
  refine wpAny_bind (wpAny_specialOf hTs slice_no_index ?_)
  simp only [Option.isNone_none, if_true]
  refine wpAny_pure ?_
  show wpAny _ _ (typeOf (.ref sl) >>= _) _ _ s
  refine wpAny_bind (wpAny_typeOf hTs ?_)
  rw [if_neg (by decide)]
  rw [listSliceParts_eq]
  refine wpAny_bind (wpAny_bind (wpAny_field hos hds (x := .none) rfl (wpAny_bind (wpAny_listPart .none ?_))))
  rw [if_neg (by decide)]
  refine wpAny_bind (wpAny_field hos hds (x := vl) rfl (wpAny_bind (wpAny_listPart pl ?_)))
  refine wpAny_bind (wpAny_field hos hds (x := vu) rfl (wpAny_bind (wpAny_listPart pu (wpAny_pure ?_))))
  rw [if_neg (show ¬ (Builtin.List.listSameRef (.ref l) (.ref b) = true) by simpa [Builtin.List.listSameRef] using hne)]
  refine wpAny_bind (m := Builtin.List.listAllItems (.ref b) _) ?_
  unfold Builtin.List.listAllItems
  refine wpAny_bind (wpAny_typeOf hb.typeIs ?_)
  rw [if_pos (by decide)]
  refine items_at hob hdb ?_
  refine wpAny_bind (items_at ho rfl ?_)
  refine wpAny_bind (wpAny_of_eq (sliceIndices_raw lo hi none items.size (by simp)) ?_)
  rw [if_pos (by rfl)]
  refine wpAny_bind (wpAny_rule ?_)
  rw [if_neg (by simp only [Builtin.List.listTooLong, decide_eq_true_eq]; omega)]
  refine wpAny_bind (m := Builtin.List.listUpdate (.ref l) _) ?_
  unfold Builtin.List.listUpdate
  refine wpAny_updateSeq ho rfl ?_ (Nat.le_trans (Nat.le_add_right _ _) hz) ?_
  · refine wpAny_bind (wpAny_letGo ?_)
    exact wpAny_pure ⟨.none, rfl, wpAny_pure hQ⟩
  · simp only [Array.size_append, Array.size_extract]
    omega
end
theorem ints_append : ∀ {vs us : List Value} {ns ms : List Int}, IntsAre vs ns → IntsAre us ms → IntsAre (vs ++ us) (ns ++ ms)
  | _, _, _, _, .nil, h => h
  | _, _, _, _, .cons n t r, h => .cons n t (ints_append r h)
theorem bounds_nn {x y : Int} {n : Nat} (h0 : 0 ≤ x) (h1 : x ≤ y) (h2 : y ≤ n) : sliceBounds (some x) (some y) none n = (x, y, 1) := by
  simp only [sliceBounds, Option.getD_none, show (1 : Int) > 0 by decide, if_true, if_neg (show ¬ x < 0 by omega), if_neg (show ¬ y < 0 by omega)]
  congr 1
  · omega
  · congr 1; omega
section
variable {prog : Program} {w : World} {A : Around} {E : Value → Shared → Prop} {s : Shared} {h₀ : Heap} {L cx b : Addr} {m : Str → Option Value} {news : List (Addr × Obj)} {G : Obj → List (Addr × Obj)} {vs us : List Value} {ns ms : List Int} {n : Nat} {x y : Int} {t u : Tok}
theorem setSlice_K {Q : Unit → Shared → Prop} (F : Fr h₀ L s.heap m) (N : News h₀ L s.heap news) (U : UpdF cx (listOf vs.toArray n) news G) (hb : s.heap.IsList b us.toArray) (hne : cx ≠ b)
    (hi : IntsAre vs ns) (hj : IntsAre us ms) (h0 : 0 ≤ x) (h1 : x ≤ y) (h2 : y ≤ ns.length) (hz : ns.length + ms.length ≤ sizeLine)
    (h : ∀ h' vs' n', Fr h₀ L h' m → News h₀ L h' (G (listOf (List.toArray vs') n')) → IntsAre vs' (ns.take x.toNat ++ ms ++ ns.drop y.toNat) → Q () { s with heap := h' }) :
    wpAny (model prog w) A (setItem (.ref cx) (.ref s.heap.objs.size) (.ref b)) Q E { s with heap := s.heap.push { cls := .type "slice", data := .fields #[.int x t, .int y u, .none] } } := by
  obtain ⟨pre, post, rfl, hG, a1, a2⟩ := U.split
  have z := N (cx, listOf vs.toArray n) (List.mem_append.mpr (.inr (.head _)))
  have hvl : vs.length = ns.length := hi.length
  have hul : us.length = ms.length := hj.length
  have e1 : vs.toArray.size = ns.length := by simp [hvl]
  refine setSlice_at (s := { s with heap := s.heap.push { cls := .type "slice", data := .fields #[.int x t, .int y u, .none] } }) (items := vs.toArray) (new := us.toArray) (n := n)
    (Heap.get?_push_of_some _ z.1) (Heap.IsSliceOf.new ..) (.int x t) (.int y u) (hb.push _) hne (by rw [e1]; simpa [hul] using hz) ?_
  have F1 := F.push { cls := .type "slice", data := .fields #[.int x t, .int y u, .none] }
  have N1 : News h₀ L (s.heap.push { cls := .type "slice", data := .fields #[.int x t, .int y u, .none] }) (pre ++ (cx, listOf vs.toArray n) :: post) := fun p hp => ⟨Heap.get?_push_of_some _ (N p hp).1, (N p hp).2⟩
  rw [e1, bounds_nn h0 h1 h2]
  refine h _ (vs.take x.toNat ++ us ++ vs.drop y.toNat) (if (vs.take x.toNat ++ us ++ vs.drop y.toNat).toArray.size == vs.toArray.size then n else n + 1) (F1.change (Heap.SameBut.update ..) z.2.1 z.2.2) ?_ (ints_append (ints_append (hi.take _) hj) (hi.drop _))
  rw [hG]
  refine ki_turn _ N1 a1 a2 ?_ rfl
  apply Array.toList_inj.mp
  simp only [Array.toList_append, Array.toList_extract, List.extract_eq_drop_take', List.size_toArray]
  rw [show max x y = y by omega]
  congr 1
  rw [List.take_of_length_le (Nat.le_refl _)]
end
end
section
/-! the plain law of the gap buffer's text: lists alone -/
open List
/-- the text of cells ns with the gap from gs to ge -/
def txt (ns : List Int) (gs ge : Int) : List Int := ns.take gs.toNat ++ ns.drop ge.toNat
/-- the part of a list between two places -/
def part (xs : List Int) (a b : Int) : List Int := (xs.drop a.toNat).take (b.toNat - a.toNat)
/-- what the library's slice of ints gives -/
def sl (xs : List Int) (a b : Int) : List Int := List.take (min b.toNat xs.length - a.toNat) (List.drop a.toNat xs)
theorem len_take {ns : List Int} {a : Nat} (h : a ≤ ns.length) : (take a ns).length = a := by rw [List.length_take, Nat.min_eq_left h]
theorem txt_nat (ns : List Int) (a b : Nat) : txt ns a b = take a ns ++ drop b ns := rfl
theorem part_nat (ns : List Int) (a l : Nat) : part ns a ((a + l : Nat) : Int) = take l (drop a ns) := by
  show take (a + l - a) (drop a ns) = _
  rw [Nat.add_sub_cancel_left]
theorem take_min (l : List Int) (b c : Nat) : ∀ a : Nat, l.length = b - a → take (min c b - a) l = take (c - a) l := fun a h => by
  rw [List.take_eq_take_iff, h, Nat.sub_min_sub_right, Nat.min_assoc, Nat.min_self, Nat.sub_min_sub_right]
theorem sl_part (xs : List Int) (a b : Int) : sl xs a b = part xs a b := take_min _ _ _ _ (List.length_drop ..)
theorem sl_nat (ns : List Int) (a l : Nat) : sl ns a ((a + l : Nat) : Int) = take l (drop a ns) := by rw [sl_part, part_nat]
/-- two places in order are a number and one more -/
theorem up_of {x y : Int} (h0 : 0 ≤ x) (h : x ≤ y) : ∃ a b : Nat, x = a ∧ y = ((a + b : Nat) : Int) := by
  obtain ⟨a, rfl⟩ := Int.eq_ofNat_of_zero_le h0
  obtain ⟨b, hb⟩ := Int.le.dest h
  exact ⟨a, b, rfl, hb.symm⟩
theorem le_nat {n m : Nat} (h : (n : Int) ≤ (m : Int)) : n ≤ m := Int.ofNat_le.mp h
theorem min_l {a b n : Nat} (h : a + b ≤ n) : a ≤ n := Nat.le_trans (Nat.le_add_right a b) h
theorem txt_length {ns : List Int} {gs ge : Int} (h0 : 0 ≤ gs) (h1 : gs ≤ ge) (h2 : ge ≤ ns.length) : ((txt ns gs ge).length : Int) = ns.length - ge + gs := by
  obtain ⟨a, b, rfl, rfl⟩ := up_of h0 h1
  have h := le_nat h2
  rw [txt_nat, List.length_append, len_take (min_l h), List.length_drop, Int.natCast_add, Int.ofNat_sub h, Int.add_comm]
theorem getD_take {ns : List Int} {i a : Nat} (h : i < a) : (take a ns)[i]? = ns[i]? := by rw [List.getElem?_take, if_pos h]
theorem txt_getD_left {ns : List Int} {gs ge x : Int} (h0 : 0 ≤ gs) (h1 : gs ≤ ge) (h2 : ge ≤ ns.length) (hx : 0 ≤ x) (h : x < gs) : ns.getD x.toNat 0 = (txt ns gs ge).getD x.toNat 0 := by
  obtain ⟨a, b, rfl, rfl⟩ := up_of h0 h1
  obtain ⟨i, rfl⟩ := Int.eq_ofNat_of_zero_le hx
  have hi : i < a := Int.ofNat_lt.mp h
  rw [txt_nat, Int.toNat_natCast, List.getD_eq_getElem?_getD, List.getD_eq_getElem?_getD, List.getElem?_append_left (by rw [len_take (min_l (le_nat h2))]; exact hi), getD_take hi]
theorem txt_getD_right {ns : List Int} {gs ge x : Int} (h0 : 0 ≤ gs) (h1 : gs ≤ ge) (h2 : ge ≤ ns.length) (_hx : 0 ≤ x) (h : ¬ x < gs) : ns.getD (x - gs + ge).toNat 0 = (txt ns gs ge).getD x.toNat 0 := by
  obtain ⟨a, b, rfl, rfl⟩ := up_of h0 h1
  obtain ⟨k, hk⟩ := Int.le.dest (Int.not_lt.mp h)
  subst hk
  have e : ((a : Int) + k - a + ((a + b : Nat) : Int)) = ((a + b + k : Nat) : Int) := by omega
  have hl := len_take (min_l (le_nat h2))
  rw [txt_nat, e, Int.toNat_natCast, List.getD_eq_getElem?_getD, List.getD_eq_getElem?_getD]
  show _ = ((take a ns ++ drop (a + b) ns)[a + k]?).getD 0
  rw [List.getElem?_append_right (by rw [hl]; exact Nat.le_add_right a k), hl, Nat.add_sub_cancel_left, List.getElem?_drop]
theorem codes_left {ns : List Int} {gs ge x y : Int} (h0 : 0 ≤ gs) (h1 : gs ≤ ge) (h2 : ge ≤ ns.length) (hx : 0 ≤ x) (hxy : x ≤ y) (h : y ≤ gs) : sl ns x y = part (txt ns gs ge) x y := by
  obtain ⟨a, l, rfl, rfl⟩ := up_of hx hxy
  obtain ⟨r, hr⟩ := Int.le.dest h
  subst hr
  obtain ⟨c, hc⟩ := Int.le.dest h1
  subst hc
  have hL : a + l + r + c ≤ ns.length := le_nat h2
  rw [sl_nat, part_nat]
  show _ = take l (drop a (take (a + l + r) ns ++ drop (a + l + r + c) ns))
  rw [List.drop_append_of_le_length (by rw [len_take (min_l hL)]; exact Nat.le_trans (Nat.le_add_right a l) (Nat.le_add_right _ r)), List.drop_take, Nat.add_assoc a l r, Nat.add_sub_cancel_left,
    List.take_append_of_le_length (by rw [List.length_take, List.length_drop]; exact Nat.le_min.mpr ⟨Nat.le_add_right l r, Nat.le_sub_of_add_le (by omega)⟩), List.take_take, Nat.min_eq_left (Nat.le_add_right l r)]
theorem codes_right {ns : List Int} {gs ge x y : Int} (h0 : 0 ≤ gs) (h1 : gs ≤ ge) (h2 : ge ≤ ns.length) (_hx : 0 ≤ x) (hxy : x ≤ y) (h : gs ≤ x) : sl ns (x + (ge - gs)) (y + (ge - gs)) = part (txt ns gs ge) x y := by
  obtain ⟨g, c, rfl, rfl⟩ := up_of h0 h1
  obtain ⟨p, hp⟩ := Int.le.dest h
  subst hp
  obtain ⟨l, hl⟩ := Int.le.dest hxy
  subst hl
  have e1 : ((g : Int) + p + (((g + c : Nat) : Int) - g)) = ((g + c + p : Nat) : Int) := by omega
  have e2 : ((g : Int) + p + l + (((g + c : Nat) : Int) - g)) = ((g + c + p + l : Nat) : Int) := by omega
  rw [e1, e2, sl_nat]
  show _ = part (txt ns g ((g + c : Nat) : Int)) ((g + p : Nat) : Int) ((g + p + l : Nat) : Int)
  have hG := len_take (min_l (le_nat h2))
  have hd : drop (g + p) (take g ns ++ drop (g + c) ns) = drop (g + c + p) ns := by
    rw [← List.drop_drop, List.drop_left' hG, List.drop_drop]
  rw [part_nat, txt_nat, hd]
theorem codes_mid {ns : List Int} {gs ge x y : Int} (_h0 : 0 ≤ gs) (h1 : gs ≤ ge) (h2 : ge ≤ ns.length) (hx : 0 ≤ x) (_hxy : x ≤ y) (ha : ¬ gs ≤ x) (hb : ¬ y ≤ gs) :
    sl ns x gs ++ sl ns ge (y + (ge - gs)) = part (txt ns gs ge) x y := by
  obtain ⟨a, p, rfl, rfl⟩ := up_of hx (Int.le_of_lt (Int.not_le.mp ha))
  obtain ⟨c, hc⟩ := Int.le.dest h1
  subst hc
  obtain ⟨q, hq⟩ := Int.le.dest (Int.le_of_lt (Int.not_le.mp hb))
  subst hq
  have e : (((a + p : Nat) : Int) + q + (((a + p : Nat) : Int) + c - ((a + p : Nat) : Int))) = ((a + p + c + q : Nat) : Int) := by omega
  have hL : a + p + c ≤ ns.length := le_nat h2
  rw [e, sl_nat]
  show take p (drop a ns) ++ sl ns ((a + p + c : Nat) : Int) ((a + p + c + q : Nat) : Int) = part (txt ns ((a + p : Nat) : Int) ((a + p + c : Nat) : Int)) a ((a + p + q : Nat) : Int)
  rw [Nat.add_assoc a p q, sl_nat, part_nat, txt_nat, List.drop_append_of_le_length (by rw [len_take (min_l hL)]; exact Nat.le_add_right a p), List.drop_take, Nat.add_sub_cancel_left]
  have hP : (take p (drop a ns)).length = p := len_take (by rw [List.length_drop]; exact Nat.le_sub_of_add_le (by rw [Nat.add_comm]; exact min_l hL))
  have hT := List.take_length_add_append (l₁ := take p (drop a ns)) (l₂ := drop (a + p + c) ns) q
  rw [hP] at hT
  exact hT.symm
theorem sl_length {ns : List Int} {x y : Int} (h0 : 0 ≤ x) (h1 : x ≤ y) (h2 : y ≤ ns.length) : ((sl ns x y).length : Int) = y - x := by
  obtain ⟨a, l, rfl, rfl⟩ := up_of h0 h1
  rw [sl_nat, len_take (by rw [List.length_drop]; exact Nat.le_sub_of_add_le (by rw [Nat.add_comm]; exact le_nat h2)), Int.natCast_add]; omega
/-- the gap goes down to x -/
theorem move_down {ns : List Int} {gs ge x : Int} (_h0 : 0 ≤ gs) (h1 : gs ≤ ge) (h2 : ge ≤ ns.length) (hx : 0 ≤ x) (h : x < gs) :
    txt (ns.take (ge - (gs - x)).toNat ++ sl ns x gs ++ ns.drop ge.toNat) x (ge - (gs - x)) = txt ns gs ge := by
  obtain ⟨a, b, rfl, rfl⟩ := up_of hx (Int.le_of_lt h)
  obtain ⟨c, hc⟩ := Int.le.dest h1
  subst hc
  have e : (((a + b : Nat) : Int) + c - (((a + b : Nat) : Int) - a)) = ((a + c : Nat) : Int) := by omega
  have hL : a + b + c ≤ ns.length := le_nat h2
  have hA : (take (a + c) ns).length = a + c := len_take (by omega)
  rw [e, sl_nat]
  show txt (take (a + c) ns ++ take b (drop a ns) ++ drop (a + b + c) ns) a ((a + c : Nat) : Int) = txt ns ((a + b : Nat) : Int) ((a + b + c : Nat) : Int)
  rw [txt_nat, txt_nat, List.append_assoc (take (a + c) ns), List.take_append_of_le_length (by rw [hA]; exact Nat.le_add_right a c), List.take_take, Nat.min_eq_left (Nat.le_add_right a c), List.drop_left' hA, ← List.append_assoc, ← List.take_add]
/-- the gap goes up to x -/
theorem move_up {ns : List Int} {gs ge x : Int} (h0 : 0 ≤ gs) (h1 : gs ≤ ge) (_h2 : ge ≤ ns.length) (h : gs ≤ x) (hx : x ≤ ns.length - ge + gs) :
    txt (ns.take gs.toNat ++ sl ns ge (ge + x - gs) ++ ns.drop (gs + (x - gs)).toNat) x (ge + (x - gs)) = txt ns gs ge := by
  obtain ⟨a, c, rfl, rfl⟩ := up_of h0 h1
  obtain ⟨k, hk⟩ := Int.le.dest h
  subst hk
  have e1 : (((a + c : Nat) : Int) + ((a : Int) + k) - a) = ((a + c + k : Nat) : Int) := by omega
  have e2 : ((a : Int) + ((a : Int) + k - a)) = ((a + k : Nat) : Int) := by omega
  have e3 : (((a + c : Nat) : Int) + ((a : Int) + k - a)) = ((a + k + c : Nat) : Int) := by omega
  have hL : a + c + k ≤ ns.length := by omega
  rw [e1, e2, e3, sl_nat]
  have hP : (take a ns ++ take k (drop (a + c) ns)).length = a + k := by
    rw [List.length_append, len_take (min_l (min_l hL)), len_take (by rw [List.length_drop]; exact Nat.le_sub_of_add_le (by rw [Nat.add_comm]; exact hL))]
  show txt (take a ns ++ take k (drop (a + c) ns) ++ drop (a + k) ns) ((a + k : Nat) : Int) ((a + k + c : Nat) : Int) = txt ns a ((a + c : Nat) : Int)
  rw [txt_nat, txt_nat, List.take_left' hP, ← List.drop_drop (i := c) (j := a + k), List.drop_left' hP, List.drop_drop, List.append_assoc, Nat.add_right_comm a k c, ← List.drop_drop (i := k) (j := a + c), List.take_append_drop]
/-- the gap widened by zs -/
theorem widen_txt {ns zs : List Int} {gs ge : Int} (h0 : 0 ≤ gs) (h1 : gs ≤ ge) (h2 : ge ≤ ns.length) :
    txt (ns.take ge.toNat ++ zs ++ ns.drop ge.toNat) gs (ge + zs.length) = txt ns gs ge := by
  obtain ⟨a, c, rfl, rfl⟩ := up_of h0 h1
  have hE := len_take (le_nat h2)
  have hP : (take (a + c) ns ++ zs).length = a + c + zs.length := by rw [List.length_append, hE]
  show txt (take (a + c) ns ++ zs ++ drop (a + c) ns) a ((a + c + zs.length : Nat) : Int) = _
  rw [txt_nat, txt_nat, List.drop_left' hP, List.append_assoc, List.take_append_of_le_length (by rw [hE]; exact Nat.le_add_right a c), List.take_take, Nat.min_eq_left (Nat.le_add_right a c)]
/-- ms written into the gap's start -/
theorem insert_txt {ns ms : List Int} {gs ge : Int} (h0 : 0 ≤ gs) (h1 : gs + ms.length ≤ ge) (h2 : ge ≤ ns.length) :
    txt (ns.take gs.toNat ++ ms ++ ns.drop (gs + ms.length).toNat) (gs + ms.length) ge = (txt ns gs ge).take gs.toNat ++ ms ++ (txt ns gs ge).drop gs.toNat := by
  obtain ⟨a, rfl⟩ := Int.eq_ofNat_of_zero_le h0
  obtain ⟨c, hc⟩ := Int.le.dest h1
  subst hc
  have hL : a + ms.length + c ≤ ns.length := le_nat h2
  have hA := len_take (min_l (min_l hL))
  have hP : (take a ns ++ ms).length = a + ms.length := by rw [List.length_append, hA]
  show txt (take a ns ++ ms ++ drop (a + ms.length) ns) ((a + ms.length : Nat) : Int) ((a + ms.length + c : Nat) : Int) = take a (take a ns ++ drop (a + ms.length + c) ns) ++ ms ++ drop a (take a ns ++ drop (a + ms.length + c) ns)
  rw [txt_nat, List.take_left' hP, ← List.drop_drop (i := c) (j := a + ms.length), List.drop_left' hP, List.drop_drop, List.take_left' hA, List.drop_left' hA]
/-- the gap swallows what stands from x to y -/
theorem delete_txt {ns : List Int} {gs ge x y : Int} (h0 : 0 ≤ gs) (h1 : gs ≤ ge) (h2 : ge ≤ ns.length) (hx : 0 ≤ x) (ha : x ≤ gs) (hb : gs ≤ y) (_hy : y ≤ ns.length - ge + gs) :
    txt ns x (ge + y - gs) = (txt ns gs ge).take x.toNat ++ (txt ns gs ge).drop y.toNat := by
  obtain ⟨a, p, rfl, rfl⟩ := up_of hx ha
  obtain ⟨c, hc⟩ := Int.le.dest h1
  subst hc
  obtain ⟨q, hq⟩ := Int.le.dest hb
  subst hq
  have e : (((a + p : Nat) : Int) + c + (((a + p : Nat) : Int) + q) - ((a + p : Nat) : Int)) = ((a + p + c + q : Nat) : Int) := by omega
  have hL : a + p + c ≤ ns.length := le_nat h2
  have hG := len_take (min_l hL)
  rw [e]
  show txt ns a ((a + p + c + q : Nat) : Int) = take a (take (a + p) ns ++ drop (a + p + c) ns) ++ drop (a + p + q) (take (a + p) ns ++ drop (a + p + c) ns)
  rw [txt_nat, List.take_append_of_le_length (by rw [hG]; exact Nat.le_add_right a p), List.take_take, Nat.min_eq_left (Nat.le_add_right a p), ← List.drop_drop (i := q) (j := a + p), List.drop_left' hG, List.drop_drop]
end
theorem news_sub {h₀ h : Heap} {L : Addr} {l l' : List (Addr × Obj)} (N : News h₀ L h l) (hs : ∀ p ∈ l', p ∈ l) : News h₀ L h l' := fun p hp => N p (hs p hp)
theorem news_in3 {h₀ h : Heap} {L : Addr} {l : List (Addr × Obj)} {a b c : Addr × Obj} (N : News h₀ L h l) (ha : a ∈ l) (hb : b ∈ l) (hc : c ∈ l) : News h₀ L h (a :: b :: c :: l) := fun p hp => by
  rcases List.mem_cons.mp hp with rfl | hp
  · exact N _ ha
  · rcases List.mem_cons.mp hp with rfl | hp
    · exact N _ hb
    · rcases List.mem_cons.mp hp with rfl | hp
      · exact N _ hc
      · exact N _ hp
theorem allLt_sub {d : Addr} {l l' : List (Addr × Obj)} (N : AllLt d l) (hs : ∀ p ∈ l', p ∈ l) : AllLt d l' := allLt_of fun p hp => ktn_ltOf N p (hs p hp)
/-- l is e and the rest r -/
inductive Sel (e : Addr × Obj) : List (Addr × Obj) → List (Addr × Obj) → Prop
  | head {r} : Sel e (e :: r) r
  | tail {x l r} : Sel e l r → Sel e (x :: l) (x :: r)
theorem Sel.sub {e : Addr × Obj} {l r : List (Addr × Obj)} (h : Sel e l r) : ∀ p ∈ e :: r, p ∈ l := by
  induction h with
  | head => exact fun _ h => h
  | tail _ ih =>
    intro p hp
    rcases List.mem_cons.mp hp with rfl | hp
    · exact .tail _ (ih _ (.head _))
    · rcases List.mem_cons.mp hp with rfl | hp
      · exact .head _
      · exact .tail _ (ih _ (.tail _ hp))
theorem ownOff_nil {adr : List Addr} : OwnOff [] adr := fun _ h => nomatch h
theorem ownOff_cons {a : Addr} {o : Obj} {r : List (Addr × Obj)} {adr : List Addr} (h : ∀ b ∈ adr, a ≠ b) (h' : OwnOff r adr) : OwnOff ((a, o) :: r) adr := fun p hp => by
  rcases List.mem_cons.mp hp with rfl | hp
  · exact h
  · exact h' p hp
theorem ownOff_sub {own : List (Addr × Obj)} {adr adr' : List Addr} (h : OwnOff own adr) (hs : ∀ b ∈ adr', b ∈ adr) : OwnOff own adr' := fun p hp b hb => h p hp b (hs b hb)
theorem news_sel3 {h₀ h : Heap} {L : Addr} {l r1 r2 r3 : List (Addr × Obj)} {a b c : Addr × Obj} (N : News h₀ L h l) (s1 : Sel a l r1) (s2 : Sel b r1 r2) (s3 : Sel c r2 r3) : News h₀ L h (a :: b :: c :: r3) := fun p hp => by
  refine N p (s1.sub p ?_)
  rcases List.mem_cons.mp hp with rfl | hp
  · exact .head _
  · refine .tail _ (s2.sub p ?_)
    rcases List.mem_cons.mp hp with rfl | hp
    · exact .head _
    · exact .tail _ (s3.sub p hp)
theorem news_sel4 {h₀ h : Heap} {L : Addr} {l r1 r2 r3 r4 : List (Addr × Obj)} {a b c d : Addr × Obj} (N : News h₀ L h l) (s1 : Sel a l r1) (s2 : Sel b r1 r2) (s3 : Sel c r2 r3) (s4 : Sel d r3 r4) : News h₀ L h (a :: b :: c :: d :: r4) := fun p hp => by
  refine news_sel3 N s1 s2 s3 p ?_
  rcases List.mem_cons.mp hp with rfl | hp
  · exact .head _
  · refine .tail _ ?_
    rcases List.mem_cons.mp hp with rfl | hp
    · exact .head _
    · refine .tail _ ?_
      rcases List.mem_cons.mp hp with rfl | hp
      · exact .head _
      · exact .tail _ (s4.sub p hp)
abbrev gapEs (P : Params) (k : Nat → Tok) (room : Int) (tr : Tok) (cl : Addr) (gs : Int) (ts : Tok) (ge : Int) (te : Tok) : List DictEntry :=
  [⟨PyData.keyHash P "room", .str "room" (k 0), .int room tr⟩, ⟨PyData.keyHash P "cells", .str "cells" (k 1), .ref cl⟩,
   ⟨PyData.keyHash P "gap_start", .str "gap_start" (k 2), .int gs ts⟩, ⟨PyData.keyHash P "gap_end", .str "gap_end" (k 3), .int ge te⟩]
local macro_rules | `(tactic| ktr_rel) => `(tactic| first | exact List.forall_mem_nil _ | (refine List.forall_mem_cons.mpr ⟨by k_memK, ?_⟩; ktr_rel) | (intro p9 hp9; k_ownIn))
local macro_rules | `(tactic| tb_rel) => `(tactic| first | exact Sel.head | (refine' Sel.tail ?sl; (case sl => tb_rel)))
local macro_rules | `(tactic| tb_start) => `(tactic| first | exact ownOff_nil | (refine' ownOff_cons ?oa ?ob; (case oa => tb_start); (case ob => tb_start)) | exact List.forall_mem_nil _ | (refine' List.forall_mem_cons.mpr ⟨?oc, ?od⟩; (case oc => k_ne); (case od => tb_start)) | exact ownOff_sub (by assumption) (by k_allIn))
section
section
variable {prog : Program} {w : World} {p : Program} {loose : List Str} {mean : ExcName → Option Value} {mg mb : Str → Option Value}
variable {dp un : Nat} {gd : Option (List Code)} {cn : Str} {cs : Scope} {a : Addr} {ccd : Value} {cl : List (Str × Addr)} {outer : List Env} {A₀ : Around} {base h₀ : Heap} {L : Addr} {m : Str → Option Value} {s : Shared} {Q E : Value → Shared → Prop}
variable {g gx cx : Addr} {k : Nat → Tok} {room gs ge : Int} {tr ts te : Tok} {vs : List Value} {ns : List Int} {n : Nat} {own led : List (Addr × Obj)}
variable (B : Below A₀ base outer h₀) (F : Fr h₀ L s.heap m) (X : (KK w.params).In h₀) (T : Top p loose mean mg mb h₀) (hk : cs.kind = .function) (hdp : dp + 5 < recursionLimit)
include B F X T hk hdp
theorem gap_size_c
    (N : News h₀ L s.heap led) (m1 : (g, instObj 108 gx) ∈ led) (m2 : (gx, dictOf (gapEs w.params k room tr cx gs ts ge te) 4) ∈ led) (m3 : (cx, listOf vs.toArray n) ∈ led)
    (hI : IntsAre vs ns) (hlen : ns.length ≤ 10000) (hgs : 0 ≤ gs) (hge : gs ≤ ge) (hge2 : ge ≤ ns.length)
    (hret : ∀ t h' tk', Fr h₀ L h' m → News h₀ L h' led → Q (.int (txt ns gs ge).length t) { s with heap := h', toks := tk' }) :
    wpAny (model prog w) (ktrTop dp un gd cn cs L a ccd cl outer) (call (.ref 42) [.ref g]) Q E s := by
  replace N := news_in3 N m1 m2 m3
  clear m1 m2 m3
  refine wpAny_call ?_
  k_dflt ktr_enter
  repeat' (first | (k_unfold; (try dsimp only)) | (k_end; wrow_close) | (k_here; (with_reducible show wpAny _ _ (setItem (Value.ref _) (Value.ref _) (Value.ref _)) _ _ _); k_dflt (refine' setSlice_K (by k_asm) (by k_asm) (by k_updF) (by kmk_list) (by k_ne) (by l_ints) (by l_ints) (by omega) (by omega) (by omega) (by (simp only [sizeLine_eq]; omega)) ?_; k_whole); intro h' vs' n' F' N' hI'; (try dsimp only at N'); (try k_sweep)) | walk1 | (dsimp only; first | (k_here; (with_reducible show wpAny _ _ (setItem (Value.ref _) (Value.ref _) (Value.ref _)) _ _ _); k_dflt (refine' setSlice_K (by k_asm) (by k_asm) (by k_updF) (by kmk_list) (by k_ne) (by l_ints) (by l_ints) (by omega) (by omega) (by omega) (by (simp only [sizeLine_eq]; omega)) ?_; k_whole); intro h' vs' n' F' N' hI'; (try dsimp only at N'); (try k_sweep)) | walk1) | (leave1; walk_say "STEP leave1"; try dsimp only) | fail "no step")
  rw [← txt_length hgs hge hge2]
  exact hret _ _ _ (by assumption) (news_sub (by assumption) (by ktr_rel))
theorem gap_code_c {at' : Int} {ta : Tok}
    (N : News h₀ L s.heap led) (m1 : (g, instObj 108 gx) ∈ led) (m2 : (gx, dictOf (gapEs w.params k room tr cx gs ts ge te) 4) ∈ led) (m3 : (cx, listOf vs.toArray n) ∈ led)
    (hI : IntsAre vs ns) (hlen : ns.length ≤ 10000) (hgs : 0 ≤ gs) (hge : gs ≤ ge) (hge2 : ge ≤ ns.length) (h0 : 0 ≤ at') (h1 : at' < ns.length - ge + gs)
    (hret : ∀ t h' tk', Fr h₀ L h' m → News h₀ L h' led → Q (.int ((txt ns gs ge).getD at'.toNat 0) t) { s with heap := h', toks := tk' }) :
    wpAny (model prog w) (ktrTop dp un gd cn cs L a ccd cl outer) (call (.ref 49) [.ref g, .int at' ta]) Q E s := by
  replace N := news_in3 N m1 m2 m3
  clear m1 m2 m3
  refine wpAny_call ?_
  k_dflt ktr_enter
  repeat' (first | (k_unfold; (try dsimp only)) | (k_end; wrow_close) | (k_here; (with_reducible show wpAny _ _ (setItem (Value.ref _) (Value.ref _) (Value.ref _)) _ _ _); k_dflt (refine' setSlice_K (by k_asm) (by k_asm) (by k_updF) (by kmk_list) (by k_ne) (by l_ints) (by l_ints) (by omega) (by omega) (by omega) (by (simp only [sizeLine_eq]; omega)) ?_; k_whole); intro h' vs' n' F' N' hI'; (try dsimp only at N'); (try k_sweep)) | walk1 | (dsimp only; first | (k_here; (with_reducible show wpAny _ _ (setItem (Value.ref _) (Value.ref _) (Value.ref _)) _ _ _); k_dflt (refine' setSlice_K (by k_asm) (by k_asm) (by k_updF) (by kmk_list) (by k_ne) (by l_ints) (by l_ints) (by omega) (by omega) (by omega) (by (simp only [sizeLine_eq]; omega)) ?_; k_whole); intro h' vs' n' F' N' hI'; (try dsimp only at N'); (try k_sweep)) | walk1) | (leave1; walk_say "STEP leave1"; try dsimp only) | fail "no step")
  · rw [txt_getD_left hgs hge hge2 h0 (by assumption)]
    exact hret _ _ _ (by assumption) (news_sub (by assumption) (by ktr_rel))
  · rw [txt_getD_right hgs hge hge2 h0 (by assumption)]
    exact hret _ _ _ (by assumption) (news_sub (by assumption) (by ktr_rel))
theorem gap_codes_c {st en : Int} {t1 t2 : Tok}
    (N : News h₀ L s.heap led) (m1 : (g, instObj 108 gx) ∈ led) (m2 : (gx, dictOf (gapEs w.params k room tr cx gs ts ge te) 4) ∈ led) (m3 : (cx, listOf vs.toArray n) ∈ led)
    (hI : IntsAre vs ns) (hlen : ns.length ≤ 10000) (hgs : 0 ≤ gs) (hge : gs ≤ ge) (hge2 : ge ≤ ns.length) (h0 : 0 ≤ st) (h1 : st ≤ en) (h2 : en ≤ ns.length - ge + gs)
    (hret : ∀ D ws h' tk', Fr h₀ L h' m → News h₀ L h' ((D, listOf (List.toArray ws) 0) :: led) → AllLt D led → IntsAre ws (part (txt ns gs ge) st en) → Q (.ref D) { s with heap := h', toks := tk' }) :
    wpAny (model prog w) (ktrTop dp un gd cn cs L a ccd cl outer) (call (.ref 56) [.ref g, .int st t1, .int en t2]) Q E s := by
  replace N := news_in3 N m1 m2 m3
  clear m1 m2 m3
  refine wpAny_call ?_
  k_dflt ktr_enter
  repeat' (first | (k_unfold; (try dsimp only)) | (k_end; wrow_close) | (k_here; (with_reducible show wpAny _ _ (setItem (Value.ref _) (Value.ref _) (Value.ref _)) _ _ _); k_dflt (refine' setSlice_K (by k_asm) (by k_asm) (by k_updF) (by kmk_list) (by k_ne) (by l_ints) (by l_ints) (by omega) (by omega) (by omega) (by (simp only [sizeLine_eq]; omega)) ?_; k_whole); intro h' vs' n' F' N' hI'; (try dsimp only at N'); (try k_sweep)) | walk1 | (dsimp only; first | (k_here; (with_reducible show wpAny _ _ (setItem (Value.ref _) (Value.ref _) (Value.ref _)) _ _ _); k_dflt (refine' setSlice_K (by k_asm) (by k_asm) (by k_updF) (by kmk_list) (by k_ne) (by l_ints) (by l_ints) (by omega) (by omega) (by omega) (by (simp only [sizeLine_eq]; omega)) ?_; k_whole); intro h' vs' n' F' N' hI'; (try dsimp only at N'); (try k_sweep)) | walk1) | (leave1; walk_say "STEP leave1"; try dsimp only) | fail "no step")
  · have e := codes_left hgs hge hge2 h0 h1 (by assumption)
    rename (_ ∧ _) => l1
    exact hret _ _ _ _ (by assumption) (news_sub (by assumption) (by ktr_rel)) l1.2.2.2 (by rw [← e]; assumption)
  · have e := codes_right hgs hge hge2 h0 h1 (by assumption)
    rename (_ ∧ _) => l1
    exact hret _ _ _ _ (by assumption) (news_sub (by assumption) (by ktr_rel)) l1.2.2.2 (by rw [← e]; assumption)
  · have e := codes_mid hgs hge hge2 h0 h1 (by assumption) (by assumption)
    rename (_ ∧ _) => l1
    exact hret _ _ _ _ (by assumption) (news_sub (by assumption) (by ktr_rel)) l1.2.2.2.2.2 (by rw [← e]; assumption)
theorem gap_move_c {at' : Int} {ta : Tok}
    (N : News h₀ L s.heap ((g, instObj 108 gx) :: (gx, dictOf (gapEs w.params k room tr cx gs ts ge te) 4) :: (cx, listOf vs.toArray n) :: own)) (o1 : @LT.lt Nat _ gx g) (o2 : @LT.lt Nat _ g cx) (hoff : OwnOff own [g, gx, cx])
    (hI : IntsAre vs ns) (hlen : ns.length ≤ 10000) (hgs : 0 ≤ gs) (hge : gs ≤ ge) (hge2 : ge ≤ ns.length) (h0 : 0 ≤ at') (h1 : at' ≤ ns.length - ge + gs)
    (hret : ∀ h' tk' vs' ns' n' ge' t1 t2, Fr h₀ L h' m → News h₀ L h' ((g, instObj 108 gx) :: (gx, dictOf (gapEs w.params k room tr cx at' t1 ge' t2) 4) :: (cx, listOf (List.toArray vs') n') :: own) → IntsAre vs' ns' →
      ge' = at' + (ge - gs) → ns'.length = ns.length → txt ns' at' ge' = txt ns gs ge → Q .none { s with heap := h', toks := tk' }) :
    wpAny (model prog w) (ktrTop dp un gd cn cs L a ccd cl outer) (call (.ref 63) [.ref g, .int at' ta]) Q E s := by
  refine wpAny_call ?_
  k_dflt ktr_enter
  repeat' (first | (k_unfold; (try dsimp only)) | (k_end; wrow_close) | (k_here; (with_reducible show wpAny _ _ (setItem (Value.ref _) (Value.ref _) (Value.ref _)) _ _ _); k_dflt (refine' setSlice_K (by k_asm) (by k_asm) (by k_updF) (by kmk_list) (by k_ne) (by l_ints) (by l_ints) (by omega) (by omega) (by omega) (by (simp only [sizeLine_eq]; omega)) ?_; k_whole); intro h' vs' n' F' N' hI'; (try dsimp only at N'); (try k_sweep)) | walk1 | (dsimp only; first | (k_here; (with_reducible show wpAny _ _ (setItem (Value.ref _) (Value.ref _) (Value.ref _)) _ _ _); k_dflt (refine' setSlice_K (by k_asm) (by k_asm) (by k_updF) (by kmk_list) (by k_ne) (by l_ints) (by l_ints) (by omega) (by omega) (by omega) (by (simp only [sizeLine_eq]; omega)) ?_; k_whole); intro h' vs' n' F' N' hI'; (try dsimp only at N'); (try k_sweep)) | walk1) | (leave1; walk_say "STEP leave1"; try dsimp only) | fail "no step")
  · have hl := sl_length h0 (by omega : at' ≤ gs) (by omega : gs ≤ ns.length)
    have e := move_down hgs hge hge2 h0 (by assumption : at' < gs)
    simp only [sl] at hl e
    refine hret _ _ _ _ _ _ _ _ (by assumption) (news_sub (by assumption) (by ktr_rel)) (by assumption) ?_ ?_ ?_
    · omega
    · simp only [List.length_append, List.length_take, List.length_drop]; omega
    · rw [hl]; exact e
  · have hl := sl_length (ns := ns) (x := ge) (y := ge + at' - gs) (by omega) (by omega) (by omega)
    have e := move_up hgs hge hge2 (by omega : gs ≤ at') h1
    simp only [sl] at hl e
    rw [show ge + at' - gs - ge = at' - gs by omega] at hl
    refine hret _ _ _ _ _ _ _ _ (by assumption) (news_sub (by assumption) (by ktr_rel)) (by assumption) ?_ ?_ ?_
    · omega
    · simp only [List.length_append, List.length_take, List.length_drop]; omega
    · rw [hl]; exact e
theorem gap_widen_c {wanted : Int} {ta : Tok}
    (N : News h₀ L s.heap ((g, instObj 108 gx) :: (gx, dictOf (gapEs w.params k room tr cx gs ts ge te) 4) :: (cx, listOf vs.toArray n) :: own)) (o1 : @LT.lt Nat _ gx g) (o2 : @LT.lt Nat _ g cx) (hoff : OwnOff own [g, gx, cx])
    (hI : IntsAre vs ns) (hlen : ns.length ≤ 10000) (hgs : 0 ≤ gs) (hge : gs ≤ ge) (hge2 : ge ≤ ns.length) (hr0 : 0 ≤ room) (hr1 : room ≤ 10) (h0 : 0 ≤ wanted) (h1 : wanted ≤ 100)
    (hret : ∀ h' tk' vs' ns' n' ge' t2, Fr h₀ L h' m → News h₀ L h' ((g, instObj 108 gx) :: (gx, dictOf (gapEs w.params k room tr cx gs ts ge' t2) 4) :: (cx, listOf (List.toArray vs') n') :: own) → IntsAre vs' ns' →
      gs + wanted ≤ ge' → ge' ≤ ns'.length → ns'.length ≤ ns.length + 120 → (ns'.length : Int) - ge' = ns.length - ge → txt ns' gs ge' = txt ns gs ge → Q .none { s with heap := h', toks := tk' }) :
    wpAny (model prog w) (ktrTop dp un gd cn cs L a ccd cl outer) (call (.ref 70) [.ref g, .int wanted ta]) Q E s := by
  refine wpAny_call ?_
  k_dflt ktr_enter
  repeat' (first | (k_unfold; (try dsimp only)) | (k_end; wrow_close) | (k_here; (with_reducible show wpAny _ _ (setItem (Value.ref _) (Value.ref _) (Value.ref _)) _ _ _); k_dflt (refine' setSlice_K (by k_asm) (by k_asm) (by k_updF) (by kmk_list) (by k_ne) (by l_ints) (by l_ints) (by omega) (by omega) (by omega) (by (simp only [sizeLine_eq]; omega)) ?_; k_whole); intro h' vs' n' F' N' hI'; (try dsimp only at N'); (try k_sweep)) | walk1 | (dsimp only; first | (k_here; (with_reducible show wpAny _ _ (setItem (Value.ref _) (Value.ref _) (Value.ref _)) _ _ _); k_dflt (refine' setSlice_K (by k_asm) (by k_asm) (by k_updF) (by kmk_list) (by k_ne) (by l_ints) (by l_ints) (by omega) (by omega) (by omega) (by (simp only [sizeLine_eq]; omega)) ?_; k_whole); intro h' vs' n' F' N' hI'; (try dsimp only at N'); (try k_sweep)) | walk1) | (leave1; walk_say "STEP leave1"; try dsimp only) | fail "no step")
  · have hz : (List.replicate (wanted - (ge - gs) + room).toNat [(0 : Int)]).flatten.length = (wanted - (ge - gs) + room).toNat := by simp
    have e := widen_txt (zs := (List.replicate (wanted - (ge - gs) + room).toNat [(0 : Int)]).flatten) hgs hge hge2
    rw [hz, show ge + ((wanted - (ge - gs) + room).toNat : Int) = ge + (wanted - (ge - gs)) + room by omega] at e
    refine hret _ _ _ _ _ _ _ (by assumption) (news_sub (by assumption) (by ktr_rel)) (by assumption) ?_ ?_ ?_ ?_ e
    · omega
    · simp only [List.length_append, List.length_take, List.length_drop, hz]; omega
    · simp only [List.length_append, List.length_take, List.length_drop, hz]; omega
    · simp only [List.length_append, List.length_take, List.length_drop, hz]; omega
  · exact hret _ _ _ _ _ _ _ (by assumption) (by assumption) hI (by omega) hge2 (by omega) rfl rfl
end
end
section
section
variable {prog : Program} {w : World} {p : Program} {loose : List Str} {mean : ExcName → Option Value} {mg mb : Str → Option Value}
variable {dp un : Nat} {gd : Option (List Code)} {cn : Str} {cs : Scope} {a : Addr} {ccd : Value} {cl : List (Str × Addr)} {outer : List Env} {A₀ : Around} {base h₀ : Heap} {L : Addr} {m : Str → Option Value} {s : Shared} {Q E : Value → Shared → Prop}
variable {g gx cx : Addr} {k : Nat → Tok} {room gs ge : Int} {tr ts te : Tok} {vs : List Value} {ns : List Int} {n : Nat} {own led : List (Addr × Obj)}
variable (B : Below A₀ base outer h₀) (F : Fr h₀ L s.heap m) (X : (KK w.params).In h₀) (T : Top p loose mean mg mb h₀) (hk : cs.kind = .function) (hdp : dp + 5 < recursionLimit)
include B F X T hk hdp
theorem gap_insert_c (hdp2 : dp + 20 < recursionLimit) {at' : Int} {ta : Tok} {b : Addr} {us : List Value} {ms : List Int} {nb : Nat}
    (N : News h₀ L s.heap ((g, instObj 108 gx) :: (gx, dictOf (gapEs w.params k room tr cx gs ts ge te) 4) :: (cx, listOf vs.toArray n) :: (b, listOf us.toArray nb) :: own)) (o1 : @LT.lt Nat _ gx g) (o2 : @LT.lt Nat _ g cx) (o3 : @LT.lt Nat _ cx b) (hoff : OwnOff own [g, gx, cx])
    (hI : IntsAre vs ns) (hJ : IntsAre us ms) (hlen : ns.length ≤ 9000) (hms : ms.length ≤ 100) (hgs : 0 ≤ gs) (hge : gs ≤ ge) (hge2 : ge ≤ ns.length) (hr0 : 0 ≤ room) (hr1 : room ≤ 10) (h0 : 0 ≤ at') (h1 : at' ≤ ns.length - ge + gs)
    (hret : ∀ h' tk' vs' ns' n' gs' ge' t1 t2, Fr h₀ L h' m → News h₀ L h' ((g, instObj 108 gx) :: (gx, dictOf (gapEs w.params k room tr cx gs' t1 ge' t2) 4) :: (cx, listOf (List.toArray vs') n') :: (b, listOf us.toArray nb) :: own) → IntsAre vs' ns' →
      0 ≤ gs' → gs' ≤ ge' → ge' ≤ ns'.length → ns'.length ≤ ns.length + 120 → txt ns' gs' ge' = (txt ns gs ge).take at'.toNat ++ ms ++ (txt ns gs ge).drop at'.toNat → Q .none { s with heap := h', toks := tk' }) :
    wpAny (model prog w) (ktrTop dp un gd cn cs L a ccd cl outer) (call (.ref 77) [.ref g, .int at' ta, .ref b]) Q E s := by
  refine wpAny_call ?_
  k_dflt ktr_enter
  repeat' (first | (k_unfold; (try dsimp only)) | (k_end; wrow_close) | (k_here; (with_reducible show wpAny _ _ (call (Value.ref 70) _) _ _ _); k_dflt (refine' gap_widen_c (by k_asm) (by k_asm) (by k_asm) (by k_asm) (by first | exact rfl | assumption) (by ktr_room) (news_sel3 (by k_asm) (by tb_rel) (by tb_rel) (by tb_rel)) (by omega) (by omega) (by tb_start) (by l_ints) (by omega) (by omega) (by omega) (by omega) (by omega) (by omega) (by omega) (by omega) ?_; k_whole); intro h' tk' vs' ns' n' ge' t2' F' N' hI' he' hf' hl' hq' ht'; (try k_sweep)) | (k_here; (with_reducible show wpAny _ _ (call (Value.ref 63) _) _ _ _); k_dflt (refine' gap_move_c (by k_asm) (by k_asm) (by k_asm) (by k_asm) (by first | exact rfl | assumption) (by ktr_room) (news_sel3 (by k_asm) (by tb_rel) (by tb_rel) (by tb_rel)) (by omega) (by omega) (by tb_start) (by l_ints) (by omega) (by omega) (by omega) (by omega) (by omega) (by omega) ?_; k_whole); intro h' tk' vs' ns' n' ge' t1' t2' F' N' hI' he' hl' ht'; (try k_sweep)) | (k_here; (with_reducible show wpAny _ _ (call (Value.ref 56) _) _ _ _); k_dflt (refine' gap_codes_c (by k_asm) (by k_asm) (by k_asm) (by k_asm) (by first | exact rfl | assumption) (by ktr_room) (by k_asm) (by k_mem) (by k_mem) (by k_mem) (by l_ints) (by omega) (by omega) (by omega) (by omega) (by omega) (by omega) (by omega) ?_; k_whole); intro D' ws' h' tk' F' N' l1 hI'; (try simp only [AllLt, and_true] at l1); (try k_sweep)) | (k_here; (with_reducible show wpAny _ _ (call (Value.ref 49) _) _ _ _); k_dflt (refine' gap_code_c (by k_asm) (by k_asm) (by k_asm) (by k_asm) (by first | exact rfl | assumption) (by ktr_room) (by k_asm) (by k_mem) (by k_mem) (by k_mem) (by l_ints) (by omega) (by omega) (by omega) (by omega) (by omega) (by omega) ?_; k_whole); intro t' h' tk' F' N'; (try k_sweep)) | (k_here; (with_reducible show wpAny _ _ (call (Value.ref 42) _) _ _ _); k_dflt (refine' gap_size_c (by k_asm) (by k_asm) (by k_asm) (by k_asm) (by first | exact rfl | assumption) (by ktr_room) (by k_asm) (by k_mem) (by k_mem) (by k_mem) (by l_ints) (by omega) (by omega) (by omega) (by omega) ?_; k_whole); intro t' h' tk' F' N'; (try k_sweep)) | (k_here; (with_reducible show wpAny _ _ (setItem (Value.ref _) (Value.ref _) (Value.ref _)) _ _ _); k_dflt (refine' setSlice_K (by k_asm) (by k_asm) (by k_updF) (by kmk_list) (by k_ne) (by l_ints) (by l_ints) (by omega) (by omega) (by omega) (by (simp only [sizeLine_eq]; omega)) ?_; k_whole); intro h' vs' n' F' N' hI'; (try dsimp only at N'); (try k_sweep)) | walk1 | (dsimp only; first | (k_here; (with_reducible show wpAny _ _ (call (Value.ref 70) _) _ _ _); k_dflt (refine' gap_widen_c (by k_asm) (by k_asm) (by k_asm) (by k_asm) (by first | exact rfl | assumption) (by ktr_room) (news_sel3 (by k_asm) (by tb_rel) (by tb_rel) (by tb_rel)) (by omega) (by omega) (by tb_start) (by l_ints) (by omega) (by omega) (by omega) (by omega) (by omega) (by omega) (by omega) (by omega) ?_; k_whole); intro h' tk' vs' ns' n' ge' t2' F' N' hI' he' hf' hl' hq' ht'; (try k_sweep)) | (k_here; (with_reducible show wpAny _ _ (call (Value.ref 63) _) _ _ _); k_dflt (refine' gap_move_c (by k_asm) (by k_asm) (by k_asm) (by k_asm) (by first | exact rfl | assumption) (by ktr_room) (news_sel3 (by k_asm) (by tb_rel) (by tb_rel) (by tb_rel)) (by omega) (by omega) (by tb_start) (by l_ints) (by omega) (by omega) (by omega) (by omega) (by omega) (by omega) ?_; k_whole); intro h' tk' vs' ns' n' ge' t1' t2' F' N' hI' he' hl' ht'; (try k_sweep)) | (k_here; (with_reducible show wpAny _ _ (call (Value.ref 56) _) _ _ _); k_dflt (refine' gap_codes_c (by k_asm) (by k_asm) (by k_asm) (by k_asm) (by first | exact rfl | assumption) (by ktr_room) (by k_asm) (by k_mem) (by k_mem) (by k_mem) (by l_ints) (by omega) (by omega) (by omega) (by omega) (by omega) (by omega) (by omega) ?_; k_whole); intro D' ws' h' tk' F' N' l1 hI'; (try simp only [AllLt, and_true] at l1); (try k_sweep)) | (k_here; (with_reducible show wpAny _ _ (call (Value.ref 49) _) _ _ _); k_dflt (refine' gap_code_c (by k_asm) (by k_asm) (by k_asm) (by k_asm) (by first | exact rfl | assumption) (by ktr_room) (by k_asm) (by k_mem) (by k_mem) (by k_mem) (by l_ints) (by omega) (by omega) (by omega) (by omega) (by omega) (by omega) ?_; k_whole); intro t' h' tk' F' N'; (try k_sweep)) | (k_here; (with_reducible show wpAny _ _ (call (Value.ref 42) _) _ _ _); k_dflt (refine' gap_size_c (by k_asm) (by k_asm) (by k_asm) (by k_asm) (by first | exact rfl | assumption) (by ktr_room) (by k_asm) (by k_mem) (by k_mem) (by k_mem) (by l_ints) (by omega) (by omega) (by omega) (by omega) ?_; k_whole); intro t' h' tk' F' N'; (try k_sweep)) | (k_here; (with_reducible show wpAny _ _ (setItem (Value.ref _) (Value.ref _) (Value.ref _)) _ _ _); k_dflt (refine' setSlice_K (by k_asm) (by k_asm) (by k_updF) (by kmk_list) (by k_ne) (by l_ints) (by l_ints) (by omega) (by omega) (by omega) (by (simp only [sizeLine_eq]; omega)) ?_; k_whole); intro h' vs' n' F' N' hI'; (try dsimp only at N'); (try k_sweep)) | walk1) | (leave1; walk_say "STEP leave1"; try dsimp only) | fail "no step")
  rename (txt _ at' _ = txt _ _ _) => ht2
  rename (txt _ gs _ = txt ns gs ge) => ht1
  refine hret _ _ _ _ _ _ _ _ _ (by assumption) (news_sub (by assumption) (by ktr_rel)) (by assumption) ?_ ?_ ?_ ?_ ?_
  · omega
  · omega
  · simp only [List.length_append, List.length_take, List.length_drop]; omega
  · simp only [List.length_append, List.length_take, List.length_drop]; omega
  · rw [insert_txt h0 (by omega) (by omega), ht2, ht1]
theorem gap_delete_c (hdp2 : dp + 20 < recursionLimit) {st en : Int} {ta tb : Tok}
    (N : News h₀ L s.heap ((g, instObj 108 gx) :: (gx, dictOf (gapEs w.params k room tr cx gs ts ge te) 4) :: (cx, listOf vs.toArray n) :: own)) (o1 : @LT.lt Nat _ gx g) (o2 : @LT.lt Nat _ g cx) (hoff : OwnOff own [g, gx, cx])
    (hI : IntsAre vs ns) (hlen : ns.length ≤ 10000) (hgs : 0 ≤ gs) (hge : gs ≤ ge) (hge2 : ge ≤ ns.length) (h0 : 0 ≤ st) (h1 : st ≤ en) (h2 : en ≤ ns.length - ge + gs)
    (hret : ∀ D ws h' tk' vs' ns' n' ge' t1 t2, Fr h₀ L h' m → News h₀ L h' ((D, listOf (List.toArray ws) 0) :: (g, instObj 108 gx) :: (gx, dictOf (gapEs w.params k room tr cx st t1 ge' t2) 4) :: (cx, listOf (List.toArray vs') n') :: own) →
      @LT.lt Nat _ cx D → AllLt D own → IntsAre ws (part (txt ns gs ge) st en) → IntsAre vs' ns' →
      st ≤ ge' → ge' ≤ ns'.length → ns'.length = ns.length → txt ns' st ge' = (txt ns gs ge).take st.toNat ++ (txt ns gs ge).drop en.toNat → Q (.ref D) { s with heap := h', toks := tk' }) :
    wpAny (model prog w) (ktrTop dp un gd cn cs L a ccd cl outer) (call (.ref 84) [.ref g, .int st ta, .int en tb]) Q E s := by
  refine wpAny_call ?_
  k_dflt ktr_enter
  repeat' (first | (k_unfold; (try dsimp only)) | (k_end; wrow_close) | (k_here; (with_reducible show wpAny _ _ (call (Value.ref 70) _) _ _ _); k_dflt (refine' gap_widen_c (by k_asm) (by k_asm) (by k_asm) (by k_asm) (by first | exact rfl | assumption) (by ktr_room) (news_sel3 (by k_asm) (by tb_rel) (by tb_rel) (by tb_rel)) (by omega) (by omega) (by tb_start) (by l_ints) (by omega) (by omega) (by omega) (by omega) (by omega) (by omega) (by omega) (by omega) ?_; k_whole); intro h' tk' vs' ns' n' ge' t2' F' N' hI' he' hf' hl' hq' ht'; (try k_sweep)) | (k_here; (with_reducible show wpAny _ _ (call (Value.ref 63) _) _ _ _); k_dflt (refine' gap_move_c (by k_asm) (by k_asm) (by k_asm) (by k_asm) (by first | exact rfl | assumption) (by ktr_room) (news_sel3 (by k_asm) (by tb_rel) (by tb_rel) (by tb_rel)) (by omega) (by omega) (by tb_start) (by l_ints) (by omega) (by omega) (by omega) (by omega) (by omega) (by omega) ?_; k_whole); intro h' tk' vs' ns' n' ge' t1' t2' F' N' hI' he' hl' ht'; (try k_sweep)) | (k_here; (with_reducible show wpAny _ _ (call (Value.ref 56) _) _ _ _); k_dflt (refine' gap_codes_c (by k_asm) (by k_asm) (by k_asm) (by k_asm) (by first | exact rfl | assumption) (by ktr_room) (by k_asm) (by k_mem) (by k_mem) (by k_mem) (by l_ints) (by omega) (by omega) (by omega) (by omega) (by omega) (by omega) (by omega) ?_; k_whole); intro D' ws' h' tk' F' N' l1 hI'; (try simp only [AllLt, and_true] at l1); (try k_sweep)) | (k_here; (with_reducible show wpAny _ _ (call (Value.ref 49) _) _ _ _); k_dflt (refine' gap_code_c (by k_asm) (by k_asm) (by k_asm) (by k_asm) (by first | exact rfl | assumption) (by ktr_room) (by k_asm) (by k_mem) (by k_mem) (by k_mem) (by l_ints) (by omega) (by omega) (by omega) (by omega) (by omega) (by omega) ?_; k_whole); intro t' h' tk' F' N'; (try k_sweep)) | (k_here; (with_reducible show wpAny _ _ (call (Value.ref 42) _) _ _ _); k_dflt (refine' gap_size_c (by k_asm) (by k_asm) (by k_asm) (by k_asm) (by first | exact rfl | assumption) (by ktr_room) (by k_asm) (by k_mem) (by k_mem) (by k_mem) (by l_ints) (by omega) (by omega) (by omega) (by omega) ?_; k_whole); intro t' h' tk' F' N'; (try k_sweep)) | (k_here; (with_reducible show wpAny _ _ (setItem (Value.ref _) (Value.ref _) (Value.ref _)) _ _ _); k_dflt (refine' setSlice_K (by k_asm) (by k_asm) (by k_updF) (by kmk_list) (by k_ne) (by l_ints) (by l_ints) (by omega) (by omega) (by omega) (by (simp only [sizeLine_eq]; omega)) ?_; k_whole); intro h' vs' n' F' N' hI'; (try dsimp only at N'); (try k_sweep)) | walk1 | (dsimp only; first | (k_here; (with_reducible show wpAny _ _ (call (Value.ref 70) _) _ _ _); k_dflt (refine' gap_widen_c (by k_asm) (by k_asm) (by k_asm) (by k_asm) (by first | exact rfl | assumption) (by ktr_room) (news_sel3 (by k_asm) (by tb_rel) (by tb_rel) (by tb_rel)) (by omega) (by omega) (by tb_start) (by l_ints) (by omega) (by omega) (by omega) (by omega) (by omega) (by omega) (by omega) (by omega) ?_; k_whole); intro h' tk' vs' ns' n' ge' t2' F' N' hI' he' hf' hl' hq' ht'; (try k_sweep)) | (k_here; (with_reducible show wpAny _ _ (call (Value.ref 63) _) _ _ _); k_dflt (refine' gap_move_c (by k_asm) (by k_asm) (by k_asm) (by k_asm) (by first | exact rfl | assumption) (by ktr_room) (news_sel3 (by k_asm) (by tb_rel) (by tb_rel) (by tb_rel)) (by omega) (by omega) (by tb_start) (by l_ints) (by omega) (by omega) (by omega) (by omega) (by omega) (by omega) ?_; k_whole); intro h' tk' vs' ns' n' ge' t1' t2' F' N' hI' he' hl' ht'; (try k_sweep)) | (k_here; (with_reducible show wpAny _ _ (call (Value.ref 56) _) _ _ _); k_dflt (refine' gap_codes_c (by k_asm) (by k_asm) (by k_asm) (by k_asm) (by first | exact rfl | assumption) (by ktr_room) (by k_asm) (by k_mem) (by k_mem) (by k_mem) (by l_ints) (by omega) (by omega) (by omega) (by omega) (by omega) (by omega) (by omega) ?_; k_whole); intro D' ws' h' tk' F' N' l1 hI'; (try simp only [AllLt, and_true] at l1); (try k_sweep)) | (k_here; (with_reducible show wpAny _ _ (call (Value.ref 49) _) _ _ _); k_dflt (refine' gap_code_c (by k_asm) (by k_asm) (by k_asm) (by k_asm) (by first | exact rfl | assumption) (by ktr_room) (by k_asm) (by k_mem) (by k_mem) (by k_mem) (by l_ints) (by omega) (by omega) (by omega) (by omega) (by omega) (by omega) ?_; k_whole); intro t' h' tk' F' N'; (try k_sweep)) | (k_here; (with_reducible show wpAny _ _ (call (Value.ref 42) _) _ _ _); k_dflt (refine' gap_size_c (by k_asm) (by k_asm) (by k_asm) (by k_asm) (by first | exact rfl | assumption) (by ktr_room) (by k_asm) (by k_mem) (by k_mem) (by k_mem) (by l_ints) (by omega) (by omega) (by omega) (by omega) ?_; k_whole); intro t' h' tk' F' N'; (try k_sweep)) | (k_here; (with_reducible show wpAny _ _ (setItem (Value.ref _) (Value.ref _) (Value.ref _)) _ _ _); k_dflt (refine' setSlice_K (by k_asm) (by k_asm) (by k_updF) (by kmk_list) (by k_ne) (by l_ints) (by l_ints) (by omega) (by omega) (by omega) (by (simp only [sizeLine_eq]; omega)) ?_; k_whole); intro h' vs' n' F' N' hI'; (try dsimp only at N'); (try k_sweep)) | walk1) | (leave1; walk_say "STEP leave1"; try dsimp only) | fail "no step")
  · rename (txt _ en _ = txt _ _ _) => ht
    rename (_ ∧ _) => l1
    refine hret _ _ _ _ _ _ _ _ _ _ (by assumption) (news_sub (by assumption) (by ktr_rel)) l1.2.2.1 l1.2.2.2 (by assumption) (by assumption) ?_ ?_ ?_ ?_
    · omega
    · omega
    · omega
    · rw [delete_txt (by omega) (by omega) (by omega) h0 (by omega) (by omega) (by omega), ht]
  · rename (txt _ st _ = txt _ _ _) => ht
    rename (_ ∧ _) => l1
    refine hret _ _ _ _ _ _ _ _ _ _ (by assumption) (news_sub (by assumption) (by ktr_rel)) l1.2.2.1 l1.2.2.2 (by assumption) (by assumption) ?_ ?_ ?_ ?_
    · omega
    · omega
    · omega
    · rw [delete_txt (by omega) (by omega) (by omega) h0 (by omega) (by omega) (by omega), ht]
  · rename (_ ∧ _) => l1
    refine hret _ _ _ _ _ _ _ _ _ _ (by assumption) (news_sub (by assumption) (by ktr_rel)) l1.2.2.1 l1.2.2.2 (by assumption) hI ?_ ?_ ?_ ?_
    · omega
    · omega
    · rfl
    · rw [delete_txt (by omega) (by omega) (by omega) h0 (by omega) (by omega) (by omega)]
end
end
section
theorem mod_pos {prog : Program} {w : World} {A : Around} {E : Value → Shared → Prop} {s : Shared} {x b : Int} {t u : Tok} {Q : Value → Shared → Prop} (hb : 0 < b)
    (h : ∀ r t' tk, 0 ≤ r → r < b → Q (.int r t') { s with toks := tk }) : wpAny (model prog w) A (binaryOp .Mod (.int x t) (.int b u)) Q E s :=
  mod_int' (by omega) (h _ _ _ (Int.fmod_nonneg_of_pos x hb) (Int.fmod_lt_of_pos x hb))
local macro_rules | `(tactic| walk_at "binaryOp Mod int int") => `(tactic| (k_here; (with_reducible refine mod_pos ?hb ?_); (case hb => omega); intro r' t' tk' hr0' hr1'; (try dsimp only)))
section
variable {prog : Program} {w : World} {p : Program} {loose : List Str} {mean : ExcName → Option Value} {mg mb : Str → Option Value}
variable {dp un : Nat} {gd : Option (List Code)} {cn : Str} {cs : Scope} {a : Addr} {ccd : Value} {cl : List (Str × Addr)} {outer : List Env} {A₀ : Around} {base h₀ : Heap} {L : Addr} {m : Str → Option Value} {s : Shared} {Q E : Value → Shared → Prop}
variable {g gx cx : Addr} {k : Nat → Tok} {room gs ge : Int} {tr ts te : Tok} {vs : List Value} {ns : List Int} {n : Nat} {own led : List (Addr × Obj)}
variable (B : Below A₀ base outer h₀) (F : Fr h₀ L s.heap m) (X : (KK w.params).In h₀) (T : Top p loose mean mg mb h₀) (hk : cs.kind = .function) (hdp : dp + 5 < recursionLimit)
include B F X T hk hdp
variable {dk d0 : Addr} {c : Int} {tc : Tok} {nd n0 : Nat} {ds : List Value} {dns : List Int}
theorem draw_c {many : Int} {tm : Tok}
    (N : News h₀ L s.heap ((dk, listOf #[.ref d0, .int c tc] nd) :: (d0, listOf ds.toArray n0) :: own)) (o1 : @LT.lt Nat _ d0 dk) (hoff : OwnOff own [dk])
    (hI : IntsAre ds dns) (hlen : dns.length ≤ 100) (hpos : 0 < dns.length) (hd : ∀ x ∈ dns, 0 ≤ x ∧ x ≤ 2000000) (hc0 : 0 ≤ c) (hc1 : c ≤ 100000) (hm0 : 1 ≤ many) (hm1 : many ≤ 1000)
    (hret : ∀ h' tk' v t c' t', Fr h₀ L h' m → News h₀ L h' ((dk, listOf #[.ref d0, .int c' t'] nd) :: (d0, listOf ds.toArray n0) :: own) → c' = c + 1 → 0 ≤ v → v < many → Q (.int v t) { s with heap := h', toks := tk' }) :
    wpAny (model prog w) (ktrTop dp un gd cn cs L a ccd cl outer) (call (.ref 333) [.ref dk, .int many tm]) Q E s := by
  refine wpAny_call ?_
  k_dflt ktr_enter
  repeat' (first | (k_unfold; (try dsimp only)) | (k_end; wrow_close) | (k_here; (with_reducible show wpAny _ _ (setItem (Value.ref _) (Value.ref _) (Value.ref _)) _ _ _); k_dflt (refine' setSlice_K (by k_asm) (by k_asm) (by k_updF) (by kmk_list) (by k_ne) (by l_ints) (by l_ints) (by omega) (by omega) (by omega) (by (simp only [sizeLine_eq]; omega)) ?_; k_whole); intro h' vs' n' F' N' hI'; (try dsimp only at N'); (try k_sweep)) | walk1 | (dsimp only; first | (k_here; (with_reducible show wpAny _ _ (setItem (Value.ref _) (Value.ref _) (Value.ref _)) _ _ _); k_dflt (refine' setSlice_K (by k_asm) (by k_asm) (by k_updF) (by kmk_list) (by k_ne) (by l_ints) (by l_ints) (by omega) (by omega) (by omega) (by (simp only [sizeLine_eq]; omega)) ?_; k_whole); intro h' vs' n' F' N' hI'; (try dsimp only at N'); (try k_sweep)) | walk1) | (leave1; walk_say "STEP leave1"; try dsimp only) | fail "no step")
  · exact hret _ _ _ _ _ _ (by assumption) (news_sub (by assumption) (by ktr_rel)) rfl (by assumption) (by assumption)
  · exact hret _ _ _ _ _ _ (by assumption) (news_sub (by assumption) (by ktr_rel)) rfl (by assumption) (by assumption)
end
end
section
theorem news_in2 {h₀ h : Heap} {L : Addr} {l : List (Addr × Obj)} {a b : Addr × Obj} (N : News h₀ L h l) (ha : a ∈ l) (hb : b ∈ l) : News h₀ L h (a :: b :: l) := fun p hp => by
  rcases List.mem_cons.mp hp with rfl | hp
  · exact N _ ha
  · rcases List.mem_cons.mp hp with rfl | hp
    · exact N _ hb
    · exact N _ hp
theorem news_in2' {l : List (Addr × Obj)} {a b c : Addr × Obj} (ha : a ∈ l) : a ∈ b :: c :: l := .tail _ (.tail _ ha)
abbrev bufEs (P : Params) (kb : Nat → Tok) (o : Nat → Value) (g : Addr) (pt : Int) (tp : Tok) (bv : Int) (tb : Tok) (zv : Int) (tz : Tok) (tk : Int) (tt : Tok) (ck : Int) (tc : Tok) (sk : Int) (tsk : Tok) : List DictEntry :=
  [⟨PyData.keyHash P "number", .str "number" (kb 0), o 0⟩, ⟨PyData.keyHash P "name", .str "name" (kb 1), o 1⟩, ⟨PyData.keyHash P "text", .str "text" (kb 2), .ref g⟩,
   ⟨PyData.keyHash P "markers", .str "markers" (kb 3), o 2⟩, ⟨PyData.keyHash P "point", .str "point" (kb 4), .int pt tp⟩, ⟨PyData.keyHash P "begv", .str "begv" (kb 5), .int bv tb⟩,
   ⟨PyData.keyHash P "zv", .str "zv" (kb 6), .int zv tz⟩, ⟨PyData.keyHash P "mark", .str "mark" (kb 7), o 3⟩, ⟨PyData.keyHash P "is_live", .str "is_live" (kb 8), o 4⟩,
   ⟨PyData.keyHash P "is_read_only", .str "is_read_only" (kb 9), o 5⟩, ⟨PyData.keyHash P "ticks", .str "ticks" (kb 10), .int tk tt⟩, ⟨PyData.keyHash P "codes_ticks", .str "codes_ticks" (kb 11), .int ck tc⟩,
   ⟨PyData.keyHash P "saved_ticks", .str "saved_ticks" (kb 12), .int sk tsk⟩, ⟨PyData.keyHash P "listeners", .str "listeners" (kb 13), o 6⟩, ⟨PyData.keyHash P "undo", .str "undo" (kb 14), o 7⟩,
   ⟨PyData.keyHash P "props", .str "props" (kb 15), o 8⟩, ⟨PyData.keyHash P "overlays", .str "overlays" (kb 16), o 9⟩, ⟨PyData.keyHash P "locals", .str "locals" (kb 17), o 10⟩,
   ⟨PyData.keyHash P "syntax", .str "syntax" (kb 18), o 11⟩, ⟨PyData.keyHash P "file", .str "file" (kb 19), o 12⟩]
section
variable {prog : Program} {w : World} {p : Program} {loose : List Str} {mean : ExcName → Option Value} {mg mb : Str → Option Value}
variable {dp un : Nat} {gd : Option (List Code)} {cn : Str} {cs : Scope} {a : Addr} {ccd : Value} {cl : List (Str × Addr)} {outer : List Env} {A₀ : Around} {base h₀ : Heap} {L : Addr} {m : Str → Option Value} {s : Shared} {Q E : Value → Shared → Prop}
variable {g gx cx : Addr} {k : Nat → Tok} {room gs ge : Int} {tr ts te : Tok} {vs : List Value} {ns : List Int} {n : Nat} {own led : List (Addr × Obj)}
variable (B : Below A₀ base outer h₀) (F : Fr h₀ L s.heap m) (X : (KK w.params).In h₀) (T : Top p loose mean mg mb h₀) (hk : cs.kind = .function) (hdp : dp + 5 < recursionLimit)
include B F X T hk hdp
variable {bf bx : Addr} {kb : Nat → Tok} {o : Nat → Value} {pt bv zv tk ck sk : Int} {tp tb tz tt tc tsk : Tok}
theorem buf_begin_c
    (N : News h₀ L s.heap led) (m1 : (bf, instObj 319 bx) ∈ led) (m2 : (bx, dictOf (bufEs w.params kb o g pt tp bv tb zv tz tk tt ck tc sk tsk) 20) ∈ led)
    (hret : ∀ h' tk', Fr h₀ L h' m → News h₀ L h' led → Q (.int bv tb) { s with heap := h', toks := tk' }) :
    wpAny (model prog w) (ktrTop dp un gd cn cs L a ccd cl outer) (call (.ref 253) [.ref bf]) Q E s := by
  replace N := news_in2 N m1 m2
  clear m1 m2
  refine wpAny_call ?_
  k_dflt ktr_enter
  repeat' (first | (k_unfold; (try dsimp only)) | (k_end; wrow_close) | (k_here; (with_reducible show wpAny _ _ (call (Value.ref 70) _) _ _ _); k_dflt (refine' gap_widen_c (by k_asm) (by k_asm) (by k_asm) (by k_asm) (by first | exact rfl | assumption) (by ktr_room) (news_sel3 (by k_asm) (by tb_rel) (by tb_rel) (by tb_rel)) (by omega) (by omega) (by tb_start) (by l_ints) (by omega) (by omega) (by omega) (by omega) (by omega) (by omega) (by omega) (by omega) ?_; k_whole); intro h' tk' vs' ns' n' ge' t2' F' N' hI' he' hf' hl' hq' ht'; (try k_sweep)) | (k_here; (with_reducible show wpAny _ _ (call (Value.ref 63) _) _ _ _); k_dflt (refine' gap_move_c (by k_asm) (by k_asm) (by k_asm) (by k_asm) (by first | exact rfl | assumption) (by ktr_room) (news_sel3 (by k_asm) (by tb_rel) (by tb_rel) (by tb_rel)) (by omega) (by omega) (by tb_start) (by l_ints) (by omega) (by omega) (by omega) (by omega) (by omega) (by omega) ?_; k_whole); intro h' tk' vs' ns' n' ge' t1' t2' F' N' hI' he' hl' ht'; (try k_sweep)) | (k_here; (with_reducible show wpAny _ _ (call (Value.ref 56) _) _ _ _); k_dflt (refine' gap_codes_c (by k_asm) (by k_asm) (by k_asm) (by k_asm) (by first | exact rfl | assumption) (by ktr_room) (by k_asm) (by k_mem) (by k_mem) (by k_mem) (by l_ints) (by omega) (by omega) (by omega) (by omega) (by omega) (by omega) (by omega) ?_; k_whole); intro D' ws' h' tk' F' N' l1 hI'; (try simp only [AllLt, and_true] at l1); (try k_sweep)) | (k_here; (with_reducible show wpAny _ _ (call (Value.ref 49) _) _ _ _); k_dflt (refine' gap_code_c (by k_asm) (by k_asm) (by k_asm) (by k_asm) (by first | exact rfl | assumption) (by ktr_room) (by k_asm) (by k_mem) (by k_mem) (by k_mem) (by l_ints) (by omega) (by omega) (by omega) (by omega) (by omega) (by omega) ?_; k_whole); intro t' h' tk' F' N'; (try k_sweep)) | (k_here; (with_reducible show wpAny _ _ (call (Value.ref 42) _) _ _ _); k_dflt (refine' gap_size_c (by k_asm) (by k_asm) (by k_asm) (by k_asm) (by first | exact rfl | assumption) (by ktr_room) (by k_asm) (by k_mem) (by k_mem) (by k_mem) (by l_ints) (by omega) (by omega) (by omega) (by omega) ?_; k_whole); intro t' h' tk' F' N'; (try k_sweep)) | (k_here; (with_reducible show wpAny _ _ (setItem (Value.ref _) (Value.ref _) (Value.ref _)) _ _ _); k_dflt (refine' setSlice_K (by k_asm) (by k_asm) (by k_updF) (by kmk_list) (by k_ne) (by l_ints) (by l_ints) (by omega) (by omega) (by omega) (by (simp only [sizeLine_eq]; omega)) ?_; k_whole); intro h' vs' n' F' N' hI'; (try dsimp only at N'); (try k_sweep)) | walk1 | (dsimp only; first | (k_here; (with_reducible show wpAny _ _ (call (Value.ref 70) _) _ _ _); k_dflt (refine' gap_widen_c (by k_asm) (by k_asm) (by k_asm) (by k_asm) (by first | exact rfl | assumption) (by ktr_room) (news_sel3 (by k_asm) (by tb_rel) (by tb_rel) (by tb_rel)) (by omega) (by omega) (by tb_start) (by l_ints) (by omega) (by omega) (by omega) (by omega) (by omega) (by omega) (by omega) (by omega) ?_; k_whole); intro h' tk' vs' ns' n' ge' t2' F' N' hI' he' hf' hl' hq' ht'; (try k_sweep)) | (k_here; (with_reducible show wpAny _ _ (call (Value.ref 63) _) _ _ _); k_dflt (refine' gap_move_c (by k_asm) (by k_asm) (by k_asm) (by k_asm) (by first | exact rfl | assumption) (by ktr_room) (news_sel3 (by k_asm) (by tb_rel) (by tb_rel) (by tb_rel)) (by omega) (by omega) (by tb_start) (by l_ints) (by omega) (by omega) (by omega) (by omega) (by omega) (by omega) ?_; k_whole); intro h' tk' vs' ns' n' ge' t1' t2' F' N' hI' he' hl' ht'; (try k_sweep)) | (k_here; (with_reducible show wpAny _ _ (call (Value.ref 56) _) _ _ _); k_dflt (refine' gap_codes_c (by k_asm) (by k_asm) (by k_asm) (by k_asm) (by first | exact rfl | assumption) (by ktr_room) (by k_asm) (by k_mem) (by k_mem) (by k_mem) (by l_ints) (by omega) (by omega) (by omega) (by omega) (by omega) (by omega) (by omega) ?_; k_whole); intro D' ws' h' tk' F' N' l1 hI'; (try simp only [AllLt, and_true] at l1); (try k_sweep)) | (k_here; (with_reducible show wpAny _ _ (call (Value.ref 49) _) _ _ _); k_dflt (refine' gap_code_c (by k_asm) (by k_asm) (by k_asm) (by k_asm) (by first | exact rfl | assumption) (by ktr_room) (by k_asm) (by k_mem) (by k_mem) (by k_mem) (by l_ints) (by omega) (by omega) (by omega) (by omega) (by omega) (by omega) ?_; k_whole); intro t' h' tk' F' N'; (try k_sweep)) | (k_here; (with_reducible show wpAny _ _ (call (Value.ref 42) _) _ _ _); k_dflt (refine' gap_size_c (by k_asm) (by k_asm) (by k_asm) (by k_asm) (by first | exact rfl | assumption) (by ktr_room) (by k_asm) (by k_mem) (by k_mem) (by k_mem) (by l_ints) (by omega) (by omega) (by omega) (by omega) ?_; k_whole); intro t' h' tk' F' N'; (try k_sweep)) | (k_here; (with_reducible show wpAny _ _ (setItem (Value.ref _) (Value.ref _) (Value.ref _)) _ _ _); k_dflt (refine' setSlice_K (by k_asm) (by k_asm) (by k_updF) (by kmk_list) (by k_ne) (by l_ints) (by l_ints) (by omega) (by omega) (by omega) (by (simp only [sizeLine_eq]; omega)) ?_; k_whole); intro h' vs' n' F' N' hI'; (try dsimp only at N'); (try k_sweep)) | walk1) | (leave1; walk_say "STEP leave1"; try dsimp only) | fail "no step")
  exact hret _ _ (by assumption) (news_sub (by assumption) (by ktr_rel))
theorem buf_end_c
    (N : News h₀ L s.heap led) (m1 : (bf, instObj 319 bx) ∈ led) (m2 : (bx, dictOf (bufEs w.params kb o g pt tp bv tb zv tz tk tt ck tc sk tsk) 20) ∈ led)
    (hret : ∀ h' tk', Fr h₀ L h' m → News h₀ L h' led → Q (.int zv tz) { s with heap := h', toks := tk' }) :
    wpAny (model prog w) (ktrTop dp un gd cn cs L a ccd cl outer) (call (.ref 260) [.ref bf]) Q E s := by
  replace N := news_in2 N m1 m2
  clear m1 m2
  refine wpAny_call ?_
  k_dflt ktr_enter
  repeat' (first | (k_unfold; (try dsimp only)) | (k_end; wrow_close) | (k_here; (with_reducible show wpAny _ _ (call (Value.ref 70) _) _ _ _); k_dflt (refine' gap_widen_c (by k_asm) (by k_asm) (by k_asm) (by k_asm) (by first | exact rfl | assumption) (by ktr_room) (news_sel3 (by k_asm) (by tb_rel) (by tb_rel) (by tb_rel)) (by omega) (by omega) (by tb_start) (by l_ints) (by omega) (by omega) (by omega) (by omega) (by omega) (by omega) (by omega) (by omega) ?_; k_whole); intro h' tk' vs' ns' n' ge' t2' F' N' hI' he' hf' hl' hq' ht'; (try k_sweep)) | (k_here; (with_reducible show wpAny _ _ (call (Value.ref 63) _) _ _ _); k_dflt (refine' gap_move_c (by k_asm) (by k_asm) (by k_asm) (by k_asm) (by first | exact rfl | assumption) (by ktr_room) (news_sel3 (by k_asm) (by tb_rel) (by tb_rel) (by tb_rel)) (by omega) (by omega) (by tb_start) (by l_ints) (by omega) (by omega) (by omega) (by omega) (by omega) (by omega) ?_; k_whole); intro h' tk' vs' ns' n' ge' t1' t2' F' N' hI' he' hl' ht'; (try k_sweep)) | (k_here; (with_reducible show wpAny _ _ (call (Value.ref 56) _) _ _ _); k_dflt (refine' gap_codes_c (by k_asm) (by k_asm) (by k_asm) (by k_asm) (by first | exact rfl | assumption) (by ktr_room) (by k_asm) (by k_mem) (by k_mem) (by k_mem) (by l_ints) (by omega) (by omega) (by omega) (by omega) (by omega) (by omega) (by omega) ?_; k_whole); intro D' ws' h' tk' F' N' l1 hI'; (try simp only [AllLt, and_true] at l1); (try k_sweep)) | (k_here; (with_reducible show wpAny _ _ (call (Value.ref 49) _) _ _ _); k_dflt (refine' gap_code_c (by k_asm) (by k_asm) (by k_asm) (by k_asm) (by first | exact rfl | assumption) (by ktr_room) (by k_asm) (by k_mem) (by k_mem) (by k_mem) (by l_ints) (by omega) (by omega) (by omega) (by omega) (by omega) (by omega) ?_; k_whole); intro t' h' tk' F' N'; (try k_sweep)) | (k_here; (with_reducible show wpAny _ _ (call (Value.ref 42) _) _ _ _); k_dflt (refine' gap_size_c (by k_asm) (by k_asm) (by k_asm) (by k_asm) (by first | exact rfl | assumption) (by ktr_room) (by k_asm) (by k_mem) (by k_mem) (by k_mem) (by l_ints) (by omega) (by omega) (by omega) (by omega) ?_; k_whole); intro t' h' tk' F' N'; (try k_sweep)) | (k_here; (with_reducible show wpAny _ _ (setItem (Value.ref _) (Value.ref _) (Value.ref _)) _ _ _); k_dflt (refine' setSlice_K (by k_asm) (by k_asm) (by k_updF) (by kmk_list) (by k_ne) (by l_ints) (by l_ints) (by omega) (by omega) (by omega) (by (simp only [sizeLine_eq]; omega)) ?_; k_whole); intro h' vs' n' F' N' hI'; (try dsimp only at N'); (try k_sweep)) | walk1 | (dsimp only; first | (k_here; (with_reducible show wpAny _ _ (call (Value.ref 70) _) _ _ _); k_dflt (refine' gap_widen_c (by k_asm) (by k_asm) (by k_asm) (by k_asm) (by first | exact rfl | assumption) (by ktr_room) (news_sel3 (by k_asm) (by tb_rel) (by tb_rel) (by tb_rel)) (by omega) (by omega) (by tb_start) (by l_ints) (by omega) (by omega) (by omega) (by omega) (by omega) (by omega) (by omega) (by omega) ?_; k_whole); intro h' tk' vs' ns' n' ge' t2' F' N' hI' he' hf' hl' hq' ht'; (try k_sweep)) | (k_here; (with_reducible show wpAny _ _ (call (Value.ref 63) _) _ _ _); k_dflt (refine' gap_move_c (by k_asm) (by k_asm) (by k_asm) (by k_asm) (by first | exact rfl | assumption) (by ktr_room) (news_sel3 (by k_asm) (by tb_rel) (by tb_rel) (by tb_rel)) (by omega) (by omega) (by tb_start) (by l_ints) (by omega) (by omega) (by omega) (by omega) (by omega) (by omega) ?_; k_whole); intro h' tk' vs' ns' n' ge' t1' t2' F' N' hI' he' hl' ht'; (try k_sweep)) | (k_here; (with_reducible show wpAny _ _ (call (Value.ref 56) _) _ _ _); k_dflt (refine' gap_codes_c (by k_asm) (by k_asm) (by k_asm) (by k_asm) (by first | exact rfl | assumption) (by ktr_room) (by k_asm) (by k_mem) (by k_mem) (by k_mem) (by l_ints) (by omega) (by omega) (by omega) (by omega) (by omega) (by omega) (by omega) ?_; k_whole); intro D' ws' h' tk' F' N' l1 hI'; (try simp only [AllLt, and_true] at l1); (try k_sweep)) | (k_here; (with_reducible show wpAny _ _ (call (Value.ref 49) _) _ _ _); k_dflt (refine' gap_code_c (by k_asm) (by k_asm) (by k_asm) (by k_asm) (by first | exact rfl | assumption) (by ktr_room) (by k_asm) (by k_mem) (by k_mem) (by k_mem) (by l_ints) (by omega) (by omega) (by omega) (by omega) (by omega) (by omega) ?_; k_whole); intro t' h' tk' F' N'; (try k_sweep)) | (k_here; (with_reducible show wpAny _ _ (call (Value.ref 42) _) _ _ _); k_dflt (refine' gap_size_c (by k_asm) (by k_asm) (by k_asm) (by k_asm) (by first | exact rfl | assumption) (by ktr_room) (by k_asm) (by k_mem) (by k_mem) (by k_mem) (by l_ints) (by omega) (by omega) (by omega) (by omega) ?_; k_whole); intro t' h' tk' F' N'; (try k_sweep)) | (k_here; (with_reducible show wpAny _ _ (setItem (Value.ref _) (Value.ref _) (Value.ref _)) _ _ _); k_dflt (refine' setSlice_K (by k_asm) (by k_asm) (by k_updF) (by kmk_list) (by k_ne) (by l_ints) (by l_ints) (by omega) (by omega) (by omega) (by (simp only [sizeLine_eq]; omega)) ?_; k_whole); intro h' vs' n' F' N' hI'; (try dsimp only at N'); (try k_sweep)) | walk1) | (leave1; walk_say "STEP leave1"; try dsimp only) | fail "no step")
  exact hret _ _ (by assumption) (news_sub (by assumption) (by ktr_rel))
theorem buf_tick_c
    (N : News h₀ L s.heap led) (m1 : (bf, instObj 319 bx) ∈ led) (m2 : (bx, dictOf (bufEs w.params kb o g pt tp bv tb zv tz tk tt ck tc sk tsk) 20) ∈ led)
    (hret : ∀ h' tk', Fr h₀ L h' m → News h₀ L h' led → Q (.int tk tt) { s with heap := h', toks := tk' }) :
    wpAny (model prog w) (ktrTop dp un gd cn cs L a ccd cl outer) (call (.ref 295) [.ref bf]) Q E s := by
  replace N := news_in2 N m1 m2
  clear m1 m2
  refine wpAny_call ?_
  k_dflt ktr_enter
  repeat' (first | (k_unfold; (try dsimp only)) | (k_end; wrow_close) | (k_here; (with_reducible show wpAny _ _ (call (Value.ref 70) _) _ _ _); k_dflt (refine' gap_widen_c (by k_asm) (by k_asm) (by k_asm) (by k_asm) (by first | exact rfl | assumption) (by ktr_room) (news_sel3 (by k_asm) (by tb_rel) (by tb_rel) (by tb_rel)) (by omega) (by omega) (by tb_start) (by l_ints) (by omega) (by omega) (by omega) (by omega) (by omega) (by omega) (by omega) (by omega) ?_; k_whole); intro h' tk' vs' ns' n' ge' t2' F' N' hI' he' hf' hl' hq' ht'; (try k_sweep)) | (k_here; (with_reducible show wpAny _ _ (call (Value.ref 63) _) _ _ _); k_dflt (refine' gap_move_c (by k_asm) (by k_asm) (by k_asm) (by k_asm) (by first | exact rfl | assumption) (by ktr_room) (news_sel3 (by k_asm) (by tb_rel) (by tb_rel) (by tb_rel)) (by omega) (by omega) (by tb_start) (by l_ints) (by omega) (by omega) (by omega) (by omega) (by omega) (by omega) ?_; k_whole); intro h' tk' vs' ns' n' ge' t1' t2' F' N' hI' he' hl' ht'; (try k_sweep)) | (k_here; (with_reducible show wpAny _ _ (call (Value.ref 56) _) _ _ _); k_dflt (refine' gap_codes_c (by k_asm) (by k_asm) (by k_asm) (by k_asm) (by first | exact rfl | assumption) (by ktr_room) (by k_asm) (by k_mem) (by k_mem) (by k_mem) (by l_ints) (by omega) (by omega) (by omega) (by omega) (by omega) (by omega) (by omega) ?_; k_whole); intro D' ws' h' tk' F' N' l1 hI'; (try simp only [AllLt, and_true] at l1); (try k_sweep)) | (k_here; (with_reducible show wpAny _ _ (call (Value.ref 49) _) _ _ _); k_dflt (refine' gap_code_c (by k_asm) (by k_asm) (by k_asm) (by k_asm) (by first | exact rfl | assumption) (by ktr_room) (by k_asm) (by k_mem) (by k_mem) (by k_mem) (by l_ints) (by omega) (by omega) (by omega) (by omega) (by omega) (by omega) ?_; k_whole); intro t' h' tk' F' N'; (try k_sweep)) | (k_here; (with_reducible show wpAny _ _ (call (Value.ref 42) _) _ _ _); k_dflt (refine' gap_size_c (by k_asm) (by k_asm) (by k_asm) (by k_asm) (by first | exact rfl | assumption) (by ktr_room) (by k_asm) (by k_mem) (by k_mem) (by k_mem) (by l_ints) (by omega) (by omega) (by omega) (by omega) ?_; k_whole); intro t' h' tk' F' N'; (try k_sweep)) | (k_here; (with_reducible show wpAny _ _ (setItem (Value.ref _) (Value.ref _) (Value.ref _)) _ _ _); k_dflt (refine' setSlice_K (by k_asm) (by k_asm) (by k_updF) (by kmk_list) (by k_ne) (by l_ints) (by l_ints) (by omega) (by omega) (by omega) (by (simp only [sizeLine_eq]; omega)) ?_; k_whole); intro h' vs' n' F' N' hI'; (try dsimp only at N'); (try k_sweep)) | walk1 | (dsimp only; first | (k_here; (with_reducible show wpAny _ _ (call (Value.ref 70) _) _ _ _); k_dflt (refine' gap_widen_c (by k_asm) (by k_asm) (by k_asm) (by k_asm) (by first | exact rfl | assumption) (by ktr_room) (news_sel3 (by k_asm) (by tb_rel) (by tb_rel) (by tb_rel)) (by omega) (by omega) (by tb_start) (by l_ints) (by omega) (by omega) (by omega) (by omega) (by omega) (by omega) (by omega) (by omega) ?_; k_whole); intro h' tk' vs' ns' n' ge' t2' F' N' hI' he' hf' hl' hq' ht'; (try k_sweep)) | (k_here; (with_reducible show wpAny _ _ (call (Value.ref 63) _) _ _ _); k_dflt (refine' gap_move_c (by k_asm) (by k_asm) (by k_asm) (by k_asm) (by first | exact rfl | assumption) (by ktr_room) (news_sel3 (by k_asm) (by tb_rel) (by tb_rel) (by tb_rel)) (by omega) (by omega) (by tb_start) (by l_ints) (by omega) (by omega) (by omega) (by omega) (by omega) (by omega) ?_; k_whole); intro h' tk' vs' ns' n' ge' t1' t2' F' N' hI' he' hl' ht'; (try k_sweep)) | (k_here; (with_reducible show wpAny _ _ (call (Value.ref 56) _) _ _ _); k_dflt (refine' gap_codes_c (by k_asm) (by k_asm) (by k_asm) (by k_asm) (by first | exact rfl | assumption) (by ktr_room) (by k_asm) (by k_mem) (by k_mem) (by k_mem) (by l_ints) (by omega) (by omega) (by omega) (by omega) (by omega) (by omega) (by omega) ?_; k_whole); intro D' ws' h' tk' F' N' l1 hI'; (try simp only [AllLt, and_true] at l1); (try k_sweep)) | (k_here; (with_reducible show wpAny _ _ (call (Value.ref 49) _) _ _ _); k_dflt (refine' gap_code_c (by k_asm) (by k_asm) (by k_asm) (by k_asm) (by first | exact rfl | assumption) (by ktr_room) (by k_asm) (by k_mem) (by k_mem) (by k_mem) (by l_ints) (by omega) (by omega) (by omega) (by omega) (by omega) (by omega) ?_; k_whole); intro t' h' tk' F' N'; (try k_sweep)) | (k_here; (with_reducible show wpAny _ _ (call (Value.ref 42) _) _ _ _); k_dflt (refine' gap_size_c (by k_asm) (by k_asm) (by k_asm) (by k_asm) (by first | exact rfl | assumption) (by ktr_room) (by k_asm) (by k_mem) (by k_mem) (by k_mem) (by l_ints) (by omega) (by omega) (by omega) (by omega) ?_; k_whole); intro t' h' tk' F' N'; (try k_sweep)) | (k_here; (with_reducible show wpAny _ _ (setItem (Value.ref _) (Value.ref _) (Value.ref _)) _ _ _); k_dflt (refine' setSlice_K (by k_asm) (by k_asm) (by k_updF) (by kmk_list) (by k_ne) (by l_ints) (by l_ints) (by omega) (by omega) (by omega) (by (simp only [sizeLine_eq]; omega)) ?_; k_whole); intro h' vs' n' F' N' hI'; (try dsimp only at N'); (try k_sweep)) | walk1) | (leave1; walk_say "STEP leave1"; try dsimp only) | fail "no step")
  exact hret _ _ (by assumption) (news_sub (by assumption) (by ktr_rel))
theorem buf_mod_c
    (N : News h₀ L s.heap led) (m1 : (bf, instObj 319 bx) ∈ led) (m2 : (bx, dictOf (bufEs w.params kb o g pt tp bv tb zv tz tk tt ck tc sk tsk) 20) ∈ led)
    (hret : ∀ h' tk', Fr h₀ L h' m → News h₀ L h' led → Q (.bool (decide (sk < tk))) { s with heap := h', toks := tk' }) :
    wpAny (model prog w) (ktrTop dp un gd cn cs L a ccd cl outer) (call (.ref 302) [.ref bf]) Q E s := by
  replace N := news_in2 N m1 m2
  clear m1 m2
  refine wpAny_call ?_
  k_dflt ktr_enter
  repeat' (first | (k_unfold; (try dsimp only)) | (k_end; wrow_close) | (k_here; (with_reducible show wpAny _ _ (call (Value.ref 70) _) _ _ _); k_dflt (refine' gap_widen_c (by k_asm) (by k_asm) (by k_asm) (by k_asm) (by first | exact rfl | assumption) (by ktr_room) (news_sel3 (by k_asm) (by tb_rel) (by tb_rel) (by tb_rel)) (by omega) (by omega) (by tb_start) (by l_ints) (by omega) (by omega) (by omega) (by omega) (by omega) (by omega) (by omega) (by omega) ?_; k_whole); intro h' tk' vs' ns' n' ge' t2' F' N' hI' he' hf' hl' hq' ht'; (try k_sweep)) | (k_here; (with_reducible show wpAny _ _ (call (Value.ref 63) _) _ _ _); k_dflt (refine' gap_move_c (by k_asm) (by k_asm) (by k_asm) (by k_asm) (by first | exact rfl | assumption) (by ktr_room) (news_sel3 (by k_asm) (by tb_rel) (by tb_rel) (by tb_rel)) (by omega) (by omega) (by tb_start) (by l_ints) (by omega) (by omega) (by omega) (by omega) (by omega) (by omega) ?_; k_whole); intro h' tk' vs' ns' n' ge' t1' t2' F' N' hI' he' hl' ht'; (try k_sweep)) | (k_here; (with_reducible show wpAny _ _ (call (Value.ref 56) _) _ _ _); k_dflt (refine' gap_codes_c (by k_asm) (by k_asm) (by k_asm) (by k_asm) (by first | exact rfl | assumption) (by ktr_room) (by k_asm) (by k_mem) (by k_mem) (by k_mem) (by l_ints) (by omega) (by omega) (by omega) (by omega) (by omega) (by omega) (by omega) ?_; k_whole); intro D' ws' h' tk' F' N' l1 hI'; (try simp only [AllLt, and_true] at l1); (try k_sweep)) | (k_here; (with_reducible show wpAny _ _ (call (Value.ref 49) _) _ _ _); k_dflt (refine' gap_code_c (by k_asm) (by k_asm) (by k_asm) (by k_asm) (by first | exact rfl | assumption) (by ktr_room) (by k_asm) (by k_mem) (by k_mem) (by k_mem) (by l_ints) (by omega) (by omega) (by omega) (by omega) (by omega) (by omega) ?_; k_whole); intro t' h' tk' F' N'; (try k_sweep)) | (k_here; (with_reducible show wpAny _ _ (call (Value.ref 42) _) _ _ _); k_dflt (refine' gap_size_c (by k_asm) (by k_asm) (by k_asm) (by k_asm) (by first | exact rfl | assumption) (by ktr_room) (by k_asm) (by k_mem) (by k_mem) (by k_mem) (by l_ints) (by omega) (by omega) (by omega) (by omega) ?_; k_whole); intro t' h' tk' F' N'; (try k_sweep)) | (k_here; (with_reducible show wpAny _ _ (setItem (Value.ref _) (Value.ref _) (Value.ref _)) _ _ _); k_dflt (refine' setSlice_K (by k_asm) (by k_asm) (by k_updF) (by kmk_list) (by k_ne) (by l_ints) (by l_ints) (by omega) (by omega) (by omega) (by (simp only [sizeLine_eq]; omega)) ?_; k_whole); intro h' vs' n' F' N' hI'; (try dsimp only at N'); (try k_sweep)) | walk1 | (dsimp only; first | (k_here; (with_reducible show wpAny _ _ (call (Value.ref 70) _) _ _ _); k_dflt (refine' gap_widen_c (by k_asm) (by k_asm) (by k_asm) (by k_asm) (by first | exact rfl | assumption) (by ktr_room) (news_sel3 (by k_asm) (by tb_rel) (by tb_rel) (by tb_rel)) (by omega) (by omega) (by tb_start) (by l_ints) (by omega) (by omega) (by omega) (by omega) (by omega) (by omega) (by omega) (by omega) ?_; k_whole); intro h' tk' vs' ns' n' ge' t2' F' N' hI' he' hf' hl' hq' ht'; (try k_sweep)) | (k_here; (with_reducible show wpAny _ _ (call (Value.ref 63) _) _ _ _); k_dflt (refine' gap_move_c (by k_asm) (by k_asm) (by k_asm) (by k_asm) (by first | exact rfl | assumption) (by ktr_room) (news_sel3 (by k_asm) (by tb_rel) (by tb_rel) (by tb_rel)) (by omega) (by omega) (by tb_start) (by l_ints) (by omega) (by omega) (by omega) (by omega) (by omega) (by omega) ?_; k_whole); intro h' tk' vs' ns' n' ge' t1' t2' F' N' hI' he' hl' ht'; (try k_sweep)) | (k_here; (with_reducible show wpAny _ _ (call (Value.ref 56) _) _ _ _); k_dflt (refine' gap_codes_c (by k_asm) (by k_asm) (by k_asm) (by k_asm) (by first | exact rfl | assumption) (by ktr_room) (by k_asm) (by k_mem) (by k_mem) (by k_mem) (by l_ints) (by omega) (by omega) (by omega) (by omega) (by omega) (by omega) (by omega) ?_; k_whole); intro D' ws' h' tk' F' N' l1 hI'; (try simp only [AllLt, and_true] at l1); (try k_sweep)) | (k_here; (with_reducible show wpAny _ _ (call (Value.ref 49) _) _ _ _); k_dflt (refine' gap_code_c (by k_asm) (by k_asm) (by k_asm) (by k_asm) (by first | exact rfl | assumption) (by ktr_room) (by k_asm) (by k_mem) (by k_mem) (by k_mem) (by l_ints) (by omega) (by omega) (by omega) (by omega) (by omega) (by omega) ?_; k_whole); intro t' h' tk' F' N'; (try k_sweep)) | (k_here; (with_reducible show wpAny _ _ (call (Value.ref 42) _) _ _ _); k_dflt (refine' gap_size_c (by k_asm) (by k_asm) (by k_asm) (by k_asm) (by first | exact rfl | assumption) (by ktr_room) (by k_asm) (by k_mem) (by k_mem) (by k_mem) (by l_ints) (by omega) (by omega) (by omega) (by omega) ?_; k_whole); intro t' h' tk' F' N'; (try k_sweep)) | (k_here; (with_reducible show wpAny _ _ (setItem (Value.ref _) (Value.ref _) (Value.ref _)) _ _ _); k_dflt (refine' setSlice_K (by k_asm) (by k_asm) (by k_updF) (by kmk_list) (by k_ne) (by l_ints) (by l_ints) (by omega) (by omega) (by omega) (by (simp only [sizeLine_eq]; omega)) ?_; k_whole); intro h' vs' n' F' N' hI'; (try dsimp only at N'); (try k_sweep)) | walk1) | (leave1; walk_say "STEP leave1"; try dsimp only) | fail "no step")
  exact hret _ _ (by assumption) (news_sub (by assumption) (by ktr_rel))
theorem buf_size_c (hdp2 : dp + 20 < recursionLimit)
    (N : News h₀ L s.heap led) (m1 : (bf, instObj 319 bx) ∈ led) (m2 : (bx, dictOf (bufEs w.params kb o g pt tp bv tb zv tz tk tt ck tc sk tsk) 20) ∈ led)
    (m3 : (g, instObj 108 gx) ∈ led) (m4 : (gx, dictOf (gapEs w.params k room tr cx gs ts ge te) 4) ∈ led) (m5 : (cx, listOf vs.toArray n) ∈ led)
    (hI : IntsAre vs ns) (hlen : ns.length ≤ 10000) (hgs : 0 ≤ gs) (hge : gs ≤ ge) (hge2 : ge ≤ ns.length)
    (hret : ∀ t h' tk', Fr h₀ L h' m → News h₀ L h' led → Q (.int (txt ns gs ge).length t) { s with heap := h', toks := tk' }) :
    wpAny (model prog w) (ktrTop dp un gd cn cs L a ccd cl outer) (call (.ref 267) [.ref bf]) Q E s := by
  replace N := news_in3 (news_in2 N m1 m2) (news_in2' m3) (news_in2' m4) (news_in2' m5)
  clear m1 m2 m3 m4 m5
  refine wpAny_call ?_
  k_dflt ktr_enter
  repeat' (first | (k_unfold; (try dsimp only)) | (k_end; wrow_close) | (k_here; (with_reducible show wpAny _ _ (call (Value.ref 70) _) _ _ _); k_dflt (refine' gap_widen_c (by k_asm) (by k_asm) (by k_asm) (by k_asm) (by first | exact rfl | assumption) (by ktr_room) (news_sel3 (by k_asm) (by tb_rel) (by tb_rel) (by tb_rel)) (by omega) (by omega) (by tb_start) (by l_ints) (by omega) (by omega) (by omega) (by omega) (by omega) (by omega) (by omega) (by omega) ?_; k_whole); intro h' tk' vs' ns' n' ge' t2' F' N' hI' he' hf' hl' hq' ht'; (try k_sweep)) | (k_here; (with_reducible show wpAny _ _ (call (Value.ref 63) _) _ _ _); k_dflt (refine' gap_move_c (by k_asm) (by k_asm) (by k_asm) (by k_asm) (by first | exact rfl | assumption) (by ktr_room) (news_sel3 (by k_asm) (by tb_rel) (by tb_rel) (by tb_rel)) (by omega) (by omega) (by tb_start) (by l_ints) (by omega) (by omega) (by omega) (by omega) (by omega) (by omega) ?_; k_whole); intro h' tk' vs' ns' n' ge' t1' t2' F' N' hI' he' hl' ht'; (try k_sweep)) | (k_here; (with_reducible show wpAny _ _ (call (Value.ref 56) _) _ _ _); k_dflt (refine' gap_codes_c (by k_asm) (by k_asm) (by k_asm) (by k_asm) (by first | exact rfl | assumption) (by ktr_room) (by k_asm) (by k_mem) (by k_mem) (by k_mem) (by l_ints) (by omega) (by omega) (by omega) (by omega) (by omega) (by omega) (by omega) ?_; k_whole); intro D' ws' h' tk' F' N' l1 hI'; (try simp only [AllLt, and_true] at l1); (try k_sweep)) | (k_here; (with_reducible show wpAny _ _ (call (Value.ref 49) _) _ _ _); k_dflt (refine' gap_code_c (by k_asm) (by k_asm) (by k_asm) (by k_asm) (by first | exact rfl | assumption) (by ktr_room) (by k_asm) (by k_mem) (by k_mem) (by k_mem) (by l_ints) (by omega) (by omega) (by omega) (by omega) (by omega) (by omega) ?_; k_whole); intro t' h' tk' F' N'; (try k_sweep)) | (k_here; (with_reducible show wpAny _ _ (call (Value.ref 42) _) _ _ _); k_dflt (refine' gap_size_c (by k_asm) (by k_asm) (by k_asm) (by k_asm) (by first | exact rfl | assumption) (by ktr_room) (by k_asm) (by k_mem) (by k_mem) (by k_mem) (by l_ints) (by omega) (by omega) (by omega) (by omega) ?_; k_whole); intro t' h' tk' F' N'; (try k_sweep)) | (k_here; (with_reducible show wpAny _ _ (setItem (Value.ref _) (Value.ref _) (Value.ref _)) _ _ _); k_dflt (refine' setSlice_K (by k_asm) (by k_asm) (by k_updF) (by kmk_list) (by k_ne) (by l_ints) (by l_ints) (by omega) (by omega) (by omega) (by (simp only [sizeLine_eq]; omega)) ?_; k_whole); intro h' vs' n' F' N' hI'; (try dsimp only at N'); (try k_sweep)) | walk1 | (dsimp only; first | (k_here; (with_reducible show wpAny _ _ (call (Value.ref 70) _) _ _ _); k_dflt (refine' gap_widen_c (by k_asm) (by k_asm) (by k_asm) (by k_asm) (by first | exact rfl | assumption) (by ktr_room) (news_sel3 (by k_asm) (by tb_rel) (by tb_rel) (by tb_rel)) (by omega) (by omega) (by tb_start) (by l_ints) (by omega) (by omega) (by omega) (by omega) (by omega) (by omega) (by omega) (by omega) ?_; k_whole); intro h' tk' vs' ns' n' ge' t2' F' N' hI' he' hf' hl' hq' ht'; (try k_sweep)) | (k_here; (with_reducible show wpAny _ _ (call (Value.ref 63) _) _ _ _); k_dflt (refine' gap_move_c (by k_asm) (by k_asm) (by k_asm) (by k_asm) (by first | exact rfl | assumption) (by ktr_room) (news_sel3 (by k_asm) (by tb_rel) (by tb_rel) (by tb_rel)) (by omega) (by omega) (by tb_start) (by l_ints) (by omega) (by omega) (by omega) (by omega) (by omega) (by omega) ?_; k_whole); intro h' tk' vs' ns' n' ge' t1' t2' F' N' hI' he' hl' ht'; (try k_sweep)) | (k_here; (with_reducible show wpAny _ _ (call (Value.ref 56) _) _ _ _); k_dflt (refine' gap_codes_c (by k_asm) (by k_asm) (by k_asm) (by k_asm) (by first | exact rfl | assumption) (by ktr_room) (by k_asm) (by k_mem) (by k_mem) (by k_mem) (by l_ints) (by omega) (by omega) (by omega) (by omega) (by omega) (by omega) (by omega) ?_; k_whole); intro D' ws' h' tk' F' N' l1 hI'; (try simp only [AllLt, and_true] at l1); (try k_sweep)) | (k_here; (with_reducible show wpAny _ _ (call (Value.ref 49) _) _ _ _); k_dflt (refine' gap_code_c (by k_asm) (by k_asm) (by k_asm) (by k_asm) (by first | exact rfl | assumption) (by ktr_room) (by k_asm) (by k_mem) (by k_mem) (by k_mem) (by l_ints) (by omega) (by omega) (by omega) (by omega) (by omega) (by omega) ?_; k_whole); intro t' h' tk' F' N'; (try k_sweep)) | (k_here; (with_reducible show wpAny _ _ (call (Value.ref 42) _) _ _ _); k_dflt (refine' gap_size_c (by k_asm) (by k_asm) (by k_asm) (by k_asm) (by first | exact rfl | assumption) (by ktr_room) (by k_asm) (by k_mem) (by k_mem) (by k_mem) (by l_ints) (by omega) (by omega) (by omega) (by omega) ?_; k_whole); intro t' h' tk' F' N'; (try k_sweep)) | (k_here; (with_reducible show wpAny _ _ (setItem (Value.ref _) (Value.ref _) (Value.ref _)) _ _ _); k_dflt (refine' setSlice_K (by k_asm) (by k_asm) (by k_updF) (by kmk_list) (by k_ne) (by l_ints) (by l_ints) (by omega) (by omega) (by omega) (by (simp only [sizeLine_eq]; omega)) ?_; k_whole); intro h' vs' n' F' N' hI'; (try dsimp only at N'); (try k_sweep)) | walk1) | (leave1; walk_say "STEP leave1"; try dsimp only) | fail "no step")
  exact hret _ _ _ (by assumption) (news_sub (by assumption) (by ktr_rel))
theorem buf_code_c (hdp2 : dp + 20 < recursionLimit) {pl : Int} {tpl : Tok}
    (N : News h₀ L s.heap led) (m1 : (bf, instObj 319 bx) ∈ led) (m2 : (bx, dictOf (bufEs w.params kb o g pt tp bv tb zv tz tk tt ck tc sk tsk) 20) ∈ led)
    (m3 : (g, instObj 108 gx) ∈ led) (m4 : (gx, dictOf (gapEs w.params k room tr cx gs ts ge te) 4) ∈ led) (m5 : (cx, listOf vs.toArray n) ∈ led)
    (hI : IntsAre vs ns) (hlen : ns.length ≤ 10000) (hgs : 0 ≤ gs) (hge : gs ≤ ge) (hge2 : ge ≤ ns.length) (hb : 1 ≤ bv) (hz : zv ≤ ns.length - ge + gs + 1)
    (hret : ∀ t h' tk', Fr h₀ L h' m → News h₀ L h' led → Q (.int (if bv ≤ pl ∧ pl < zv then (txt ns gs ge).getD (pl - 1).toNat 0 else -1) t) { s with heap := h', toks := tk' }) :
    wpAny (model prog w) (ktrTop dp un gd cn cs L a ccd cl outer) (call (.ref 274) [.ref bf, .int pl tpl]) Q E s := by
  replace N := news_in3 (news_in2 N m1 m2) (news_in2' m3) (news_in2' m4) (news_in2' m5)
  clear m1 m2 m3 m4 m5
  refine wpAny_call ?_
  k_dflt ktr_enter
  repeat' (first | (k_unfold; (try dsimp only)) | (k_end; wrow_close) | (k_here; (with_reducible show wpAny _ _ (call (Value.ref 70) _) _ _ _); k_dflt (refine' gap_widen_c (by k_asm) (by k_asm) (by k_asm) (by k_asm) (by first | exact rfl | assumption) (by ktr_room) (news_sel3 (by k_asm) (by tb_rel) (by tb_rel) (by tb_rel)) (by omega) (by omega) (by tb_start) (by l_ints) (by omega) (by omega) (by omega) (by omega) (by omega) (by omega) (by omega) (by omega) ?_; k_whole); intro h' tk' vs' ns' n' ge' t2' F' N' hI' he' hf' hl' hq' ht'; (try k_sweep)) | (k_here; (with_reducible show wpAny _ _ (call (Value.ref 63) _) _ _ _); k_dflt (refine' gap_move_c (by k_asm) (by k_asm) (by k_asm) (by k_asm) (by first | exact rfl | assumption) (by ktr_room) (news_sel3 (by k_asm) (by tb_rel) (by tb_rel) (by tb_rel)) (by omega) (by omega) (by tb_start) (by l_ints) (by omega) (by omega) (by omega) (by omega) (by omega) (by omega) ?_; k_whole); intro h' tk' vs' ns' n' ge' t1' t2' F' N' hI' he' hl' ht'; (try k_sweep)) | (k_here; (with_reducible show wpAny _ _ (call (Value.ref 56) _) _ _ _); k_dflt (refine' gap_codes_c (by k_asm) (by k_asm) (by k_asm) (by k_asm) (by first | exact rfl | assumption) (by ktr_room) (by k_asm) (by k_mem) (by k_mem) (by k_mem) (by l_ints) (by omega) (by omega) (by omega) (by omega) (by omega) (by omega) (by omega) ?_; k_whole); intro D' ws' h' tk' F' N' l1 hI'; (try simp only [AllLt, and_true] at l1); (try k_sweep)) | (k_here; (with_reducible show wpAny _ _ (call (Value.ref 49) _) _ _ _); k_dflt (refine' gap_code_c (by k_asm) (by k_asm) (by k_asm) (by k_asm) (by first | exact rfl | assumption) (by ktr_room) (by k_asm) (by k_mem) (by k_mem) (by k_mem) (by l_ints) (by omega) (by omega) (by omega) (by omega) (by omega) (by omega) ?_; k_whole); intro t' h' tk' F' N'; (try k_sweep)) | (k_here; (with_reducible show wpAny _ _ (call (Value.ref 42) _) _ _ _); k_dflt (refine' gap_size_c (by k_asm) (by k_asm) (by k_asm) (by k_asm) (by first | exact rfl | assumption) (by ktr_room) (by k_asm) (by k_mem) (by k_mem) (by k_mem) (by l_ints) (by omega) (by omega) (by omega) (by omega) ?_; k_whole); intro t' h' tk' F' N'; (try k_sweep)) | (k_here; (with_reducible show wpAny _ _ (setItem (Value.ref _) (Value.ref _) (Value.ref _)) _ _ _); k_dflt (refine' setSlice_K (by k_asm) (by k_asm) (by k_updF) (by kmk_list) (by k_ne) (by l_ints) (by l_ints) (by omega) (by omega) (by omega) (by (simp only [sizeLine_eq]; omega)) ?_; k_whole); intro h' vs' n' F' N' hI'; (try dsimp only at N'); (try k_sweep)) | walk1 | (dsimp only; first | (k_here; (with_reducible show wpAny _ _ (call (Value.ref 70) _) _ _ _); k_dflt (refine' gap_widen_c (by k_asm) (by k_asm) (by k_asm) (by k_asm) (by first | exact rfl | assumption) (by ktr_room) (news_sel3 (by k_asm) (by tb_rel) (by tb_rel) (by tb_rel)) (by omega) (by omega) (by tb_start) (by l_ints) (by omega) (by omega) (by omega) (by omega) (by omega) (by omega) (by omega) (by omega) ?_; k_whole); intro h' tk' vs' ns' n' ge' t2' F' N' hI' he' hf' hl' hq' ht'; (try k_sweep)) | (k_here; (with_reducible show wpAny _ _ (call (Value.ref 63) _) _ _ _); k_dflt (refine' gap_move_c (by k_asm) (by k_asm) (by k_asm) (by k_asm) (by first | exact rfl | assumption) (by ktr_room) (news_sel3 (by k_asm) (by tb_rel) (by tb_rel) (by tb_rel)) (by omega) (by omega) (by tb_start) (by l_ints) (by omega) (by omega) (by omega) (by omega) (by omega) (by omega) ?_; k_whole); intro h' tk' vs' ns' n' ge' t1' t2' F' N' hI' he' hl' ht'; (try k_sweep)) | (k_here; (with_reducible show wpAny _ _ (call (Value.ref 56) _) _ _ _); k_dflt (refine' gap_codes_c (by k_asm) (by k_asm) (by k_asm) (by k_asm) (by first | exact rfl | assumption) (by ktr_room) (by k_asm) (by k_mem) (by k_mem) (by k_mem) (by l_ints) (by omega) (by omega) (by omega) (by omega) (by omega) (by omega) (by omega) ?_; k_whole); intro D' ws' h' tk' F' N' l1 hI'; (try simp only [AllLt, and_true] at l1); (try k_sweep)) | (k_here; (with_reducible show wpAny _ _ (call (Value.ref 49) _) _ _ _); k_dflt (refine' gap_code_c (by k_asm) (by k_asm) (by k_asm) (by k_asm) (by first | exact rfl | assumption) (by ktr_room) (by k_asm) (by k_mem) (by k_mem) (by k_mem) (by l_ints) (by omega) (by omega) (by omega) (by omega) (by omega) (by omega) ?_; k_whole); intro t' h' tk' F' N'; (try k_sweep)) | (k_here; (with_reducible show wpAny _ _ (call (Value.ref 42) _) _ _ _); k_dflt (refine' gap_size_c (by k_asm) (by k_asm) (by k_asm) (by k_asm) (by first | exact rfl | assumption) (by ktr_room) (by k_asm) (by k_mem) (by k_mem) (by k_mem) (by l_ints) (by omega) (by omega) (by omega) (by omega) ?_; k_whole); intro t' h' tk' F' N'; (try k_sweep)) | (k_here; (with_reducible show wpAny _ _ (setItem (Value.ref _) (Value.ref _) (Value.ref _)) _ _ _); k_dflt (refine' setSlice_K (by k_asm) (by k_asm) (by k_updF) (by kmk_list) (by k_ne) (by l_ints) (by l_ints) (by omega) (by omega) (by omega) (by (simp only [sizeLine_eq]; omega)) ?_; k_whole); intro h' vs' n' F' N' hI'; (try dsimp only at N'); (try k_sweep)) | walk1) | (leave1; walk_say "STEP leave1"; try dsimp only) | fail "no step")
  · rw [if_neg (by omega)] at hret
    exact hret _ _ _ (by assumption) (news_sub (by assumption) (by ktr_rel))
  · rw [if_neg (by omega)] at hret
    exact hret _ _ _ (by assumption) (news_sub (by assumption) (by ktr_rel))
  · rw [if_pos (by omega)] at hret
    exact hret _ _ _ (by assumption) (news_sub (by assumption) (by ktr_rel))
theorem buf_codes_c (hdp2 : dp + 20 < recursionLimit) {st en : Int} {t1 t2 : Tok}
    (N : News h₀ L s.heap led) (m1 : (bf, instObj 319 bx) ∈ led) (m2 : (bx, dictOf (bufEs w.params kb o g pt tp bv tb zv tz tk tt ck tc sk tsk) 20) ∈ led)
    (m3 : (g, instObj 108 gx) ∈ led) (m4 : (gx, dictOf (gapEs w.params k room tr cx gs ts ge te) 4) ∈ led) (m5 : (cx, listOf vs.toArray n) ∈ led)
    (hI : IntsAre vs ns) (hlen : ns.length ≤ 10000) (hgs : 0 ≤ gs) (hge : gs ≤ ge) (hge2 : ge ≤ ns.length) (h0 : 1 ≤ st) (h1 : st ≤ en) (h2 : en ≤ ns.length - ge + gs + 1)
    (hret : ∀ D ws h' tk', Fr h₀ L h' m → News h₀ L h' ((D, listOf (List.toArray ws) 0) :: led) → AllLt D led → IntsAre ws (part (txt ns gs ge) (st - 1) (en - 1)) → Q (.ref D) { s with heap := h', toks := tk' }) :
    wpAny (model prog w) (ktrTop dp un gd cn cs L a ccd cl outer) (call (.ref 281) [.ref bf, .int st t1, .int en t2]) Q E s := by
  replace N := news_in3 (news_in2 N m1 m2) (news_in2' m3) (news_in2' m4) (news_in2' m5)
  clear m1 m2 m3 m4 m5
  refine wpAny_call ?_
  k_dflt ktr_enter
  repeat' (first | (k_unfold; (try dsimp only)) | (k_end; wrow_close) | (k_here; (with_reducible show wpAny _ _ (call (Value.ref 70) _) _ _ _); k_dflt (refine' gap_widen_c (by k_asm) (by k_asm) (by k_asm) (by k_asm) (by first | exact rfl | assumption) (by ktr_room) (news_sel3 (by k_asm) (by tb_rel) (by tb_rel) (by tb_rel)) (by omega) (by omega) (by tb_start) (by l_ints) (by omega) (by omega) (by omega) (by omega) (by omega) (by omega) (by omega) (by omega) ?_; k_whole); intro h' tk' vs' ns' n' ge' t2' F' N' hI' he' hf' hl' hq' ht'; (try k_sweep)) | (k_here; (with_reducible show wpAny _ _ (call (Value.ref 63) _) _ _ _); k_dflt (refine' gap_move_c (by k_asm) (by k_asm) (by k_asm) (by k_asm) (by first | exact rfl | assumption) (by ktr_room) (news_sel3 (by k_asm) (by tb_rel) (by tb_rel) (by tb_rel)) (by omega) (by omega) (by tb_start) (by l_ints) (by omega) (by omega) (by omega) (by omega) (by omega) (by omega) ?_; k_whole); intro h' tk' vs' ns' n' ge' t1' t2' F' N' hI' he' hl' ht'; (try k_sweep)) | (k_here; (with_reducible show wpAny _ _ (call (Value.ref 56) _) _ _ _); k_dflt (refine' gap_codes_c (by k_asm) (by k_asm) (by k_asm) (by k_asm) (by first | exact rfl | assumption) (by ktr_room) (by k_asm) (by k_mem) (by k_mem) (by k_mem) (by l_ints) (by omega) (by omega) (by omega) (by omega) (by omega) (by omega) (by omega) ?_; k_whole); intro D' ws' h' tk' F' N' l1 hI'; (try simp only [AllLt, and_true] at l1); (try k_sweep)) | (k_here; (with_reducible show wpAny _ _ (call (Value.ref 49) _) _ _ _); k_dflt (refine' gap_code_c (by k_asm) (by k_asm) (by k_asm) (by k_asm) (by first | exact rfl | assumption) (by ktr_room) (by k_asm) (by k_mem) (by k_mem) (by k_mem) (by l_ints) (by omega) (by omega) (by omega) (by omega) (by omega) (by omega) ?_; k_whole); intro t' h' tk' F' N'; (try k_sweep)) | (k_here; (with_reducible show wpAny _ _ (call (Value.ref 42) _) _ _ _); k_dflt (refine' gap_size_c (by k_asm) (by k_asm) (by k_asm) (by k_asm) (by first | exact rfl | assumption) (by ktr_room) (by k_asm) (by k_mem) (by k_mem) (by k_mem) (by l_ints) (by omega) (by omega) (by omega) (by omega) ?_; k_whole); intro t' h' tk' F' N'; (try k_sweep)) | (k_here; (with_reducible show wpAny _ _ (setItem (Value.ref _) (Value.ref _) (Value.ref _)) _ _ _); k_dflt (refine' setSlice_K (by k_asm) (by k_asm) (by k_updF) (by kmk_list) (by k_ne) (by l_ints) (by l_ints) (by omega) (by omega) (by omega) (by (simp only [sizeLine_eq]; omega)) ?_; k_whole); intro h' vs' n' F' N' hI'; (try dsimp only at N'); (try k_sweep)) | walk1 | (dsimp only; first | (k_here; (with_reducible show wpAny _ _ (call (Value.ref 70) _) _ _ _); k_dflt (refine' gap_widen_c (by k_asm) (by k_asm) (by k_asm) (by k_asm) (by first | exact rfl | assumption) (by ktr_room) (news_sel3 (by k_asm) (by tb_rel) (by tb_rel) (by tb_rel)) (by omega) (by omega) (by tb_start) (by l_ints) (by omega) (by omega) (by omega) (by omega) (by omega) (by omega) (by omega) (by omega) ?_; k_whole); intro h' tk' vs' ns' n' ge' t2' F' N' hI' he' hf' hl' hq' ht'; (try k_sweep)) | (k_here; (with_reducible show wpAny _ _ (call (Value.ref 63) _) _ _ _); k_dflt (refine' gap_move_c (by k_asm) (by k_asm) (by k_asm) (by k_asm) (by first | exact rfl | assumption) (by ktr_room) (news_sel3 (by k_asm) (by tb_rel) (by tb_rel) (by tb_rel)) (by omega) (by omega) (by tb_start) (by l_ints) (by omega) (by omega) (by omega) (by omega) (by omega) (by omega) ?_; k_whole); intro h' tk' vs' ns' n' ge' t1' t2' F' N' hI' he' hl' ht'; (try k_sweep)) | (k_here; (with_reducible show wpAny _ _ (call (Value.ref 56) _) _ _ _); k_dflt (refine' gap_codes_c (by k_asm) (by k_asm) (by k_asm) (by k_asm) (by first | exact rfl | assumption) (by ktr_room) (by k_asm) (by k_mem) (by k_mem) (by k_mem) (by l_ints) (by omega) (by omega) (by omega) (by omega) (by omega) (by omega) (by omega) ?_; k_whole); intro D' ws' h' tk' F' N' l1 hI'; (try simp only [AllLt, and_true] at l1); (try k_sweep)) | (k_here; (with_reducible show wpAny _ _ (call (Value.ref 49) _) _ _ _); k_dflt (refine' gap_code_c (by k_asm) (by k_asm) (by k_asm) (by k_asm) (by first | exact rfl | assumption) (by ktr_room) (by k_asm) (by k_mem) (by k_mem) (by k_mem) (by l_ints) (by omega) (by omega) (by omega) (by omega) (by omega) (by omega) ?_; k_whole); intro t' h' tk' F' N'; (try k_sweep)) | (k_here; (with_reducible show wpAny _ _ (call (Value.ref 42) _) _ _ _); k_dflt (refine' gap_size_c (by k_asm) (by k_asm) (by k_asm) (by k_asm) (by first | exact rfl | assumption) (by ktr_room) (by k_asm) (by k_mem) (by k_mem) (by k_mem) (by l_ints) (by omega) (by omega) (by omega) (by omega) ?_; k_whole); intro t' h' tk' F' N'; (try k_sweep)) | (k_here; (with_reducible show wpAny _ _ (setItem (Value.ref _) (Value.ref _) (Value.ref _)) _ _ _); k_dflt (refine' setSlice_K (by k_asm) (by k_asm) (by k_updF) (by kmk_list) (by k_ne) (by l_ints) (by l_ints) (by omega) (by omega) (by omega) (by (simp only [sizeLine_eq]; omega)) ?_; k_whole); intro h' vs' n' F' N' hI'; (try dsimp only at N'); (try k_sweep)) | walk1) | (leave1; walk_say "STEP leave1"; try dsimp only) | fail "no step")
  rename (_ ∧ _) => l1
  exact hret _ _ _ _ (by assumption) (news_sub (by assumption) (by ktr_rel)) l1.2.2.2.2.2 (by assumption)
theorem buf_goto_c {pl : Int} {tpl : Tok}
    (N : News h₀ L s.heap ((bf, instObj 319 bx) :: (bx, dictOf (bufEs w.params kb o g pt tp bv tb zv tz tk tt ck tc sk tsk) 20) :: own)) (o1 : @LT.lt Nat _ bx bf) (hoff : OwnOff own [bf, bx])
    (hret : ∀ pt' t1 h' tk', Fr h₀ L h' m → News h₀ L h' ((bf, instObj 319 bx) :: (bx, dictOf (bufEs w.params kb o g pt' t1 bv tb zv tz tk tt ck tc sk tsk) 20) :: own) → pt' = min (max pl bv) zv → Q (.int pt' t1) { s with heap := h', toks := tk' }) :
    wpAny (model prog w) (ktrTop dp un gd cn cs L a ccd cl outer) (call (.ref 288) [.ref bf, .int pl tpl]) Q E s := by
  refine wpAny_call ?_
  k_dflt ktr_enter
  repeat' (first | (k_unfold; (try dsimp only)) | (k_end; wrow_close) | (k_here; (with_reducible show wpAny _ _ (call (Value.ref 70) _) _ _ _); k_dflt (refine' gap_widen_c (by k_asm) (by k_asm) (by k_asm) (by k_asm) (by first | exact rfl | assumption) (by ktr_room) (news_sel3 (by k_asm) (by tb_rel) (by tb_rel) (by tb_rel)) (by omega) (by omega) (by tb_start) (by l_ints) (by omega) (by omega) (by omega) (by omega) (by omega) (by omega) (by omega) (by omega) ?_; k_whole); intro h' tk' vs' ns' n' ge' t2' F' N' hI' he' hf' hl' hq' ht'; (try k_sweep)) | (k_here; (with_reducible show wpAny _ _ (call (Value.ref 63) _) _ _ _); k_dflt (refine' gap_move_c (by k_asm) (by k_asm) (by k_asm) (by k_asm) (by first | exact rfl | assumption) (by ktr_room) (news_sel3 (by k_asm) (by tb_rel) (by tb_rel) (by tb_rel)) (by omega) (by omega) (by tb_start) (by l_ints) (by omega) (by omega) (by omega) (by omega) (by omega) (by omega) ?_; k_whole); intro h' tk' vs' ns' n' ge' t1' t2' F' N' hI' he' hl' ht'; (try k_sweep)) | (k_here; (with_reducible show wpAny _ _ (call (Value.ref 56) _) _ _ _); k_dflt (refine' gap_codes_c (by k_asm) (by k_asm) (by k_asm) (by k_asm) (by first | exact rfl | assumption) (by ktr_room) (by k_asm) (by k_mem) (by k_mem) (by k_mem) (by l_ints) (by omega) (by omega) (by omega) (by omega) (by omega) (by omega) (by omega) ?_; k_whole); intro D' ws' h' tk' F' N' l1 hI'; (try simp only [AllLt, and_true] at l1); (try k_sweep)) | (k_here; (with_reducible show wpAny _ _ (call (Value.ref 49) _) _ _ _); k_dflt (refine' gap_code_c (by k_asm) (by k_asm) (by k_asm) (by k_asm) (by first | exact rfl | assumption) (by ktr_room) (by k_asm) (by k_mem) (by k_mem) (by k_mem) (by l_ints) (by omega) (by omega) (by omega) (by omega) (by omega) (by omega) ?_; k_whole); intro t' h' tk' F' N'; (try k_sweep)) | (k_here; (with_reducible show wpAny _ _ (call (Value.ref 42) _) _ _ _); k_dflt (refine' gap_size_c (by k_asm) (by k_asm) (by k_asm) (by k_asm) (by first | exact rfl | assumption) (by ktr_room) (by k_asm) (by k_mem) (by k_mem) (by k_mem) (by l_ints) (by omega) (by omega) (by omega) (by omega) ?_; k_whole); intro t' h' tk' F' N'; (try k_sweep)) | (k_here; (with_reducible show wpAny _ _ (setItem (Value.ref _) (Value.ref _) (Value.ref _)) _ _ _); k_dflt (refine' setSlice_K (by k_asm) (by k_asm) (by k_updF) (by kmk_list) (by k_ne) (by l_ints) (by l_ints) (by omega) (by omega) (by omega) (by (simp only [sizeLine_eq]; omega)) ?_; k_whole); intro h' vs' n' F' N' hI'; (try dsimp only at N'); (try k_sweep)) | walk1 | (dsimp only; first | (k_here; (with_reducible show wpAny _ _ (call (Value.ref 70) _) _ _ _); k_dflt (refine' gap_widen_c (by k_asm) (by k_asm) (by k_asm) (by k_asm) (by first | exact rfl | assumption) (by ktr_room) (news_sel3 (by k_asm) (by tb_rel) (by tb_rel) (by tb_rel)) (by omega) (by omega) (by tb_start) (by l_ints) (by omega) (by omega) (by omega) (by omega) (by omega) (by omega) (by omega) (by omega) ?_; k_whole); intro h' tk' vs' ns' n' ge' t2' F' N' hI' he' hf' hl' hq' ht'; (try k_sweep)) | (k_here; (with_reducible show wpAny _ _ (call (Value.ref 63) _) _ _ _); k_dflt (refine' gap_move_c (by k_asm) (by k_asm) (by k_asm) (by k_asm) (by first | exact rfl | assumption) (by ktr_room) (news_sel3 (by k_asm) (by tb_rel) (by tb_rel) (by tb_rel)) (by omega) (by omega) (by tb_start) (by l_ints) (by omega) (by omega) (by omega) (by omega) (by omega) (by omega) ?_; k_whole); intro h' tk' vs' ns' n' ge' t1' t2' F' N' hI' he' hl' ht'; (try k_sweep)) | (k_here; (with_reducible show wpAny _ _ (call (Value.ref 56) _) _ _ _); k_dflt (refine' gap_codes_c (by k_asm) (by k_asm) (by k_asm) (by k_asm) (by first | exact rfl | assumption) (by ktr_room) (by k_asm) (by k_mem) (by k_mem) (by k_mem) (by l_ints) (by omega) (by omega) (by omega) (by omega) (by omega) (by omega) (by omega) ?_; k_whole); intro D' ws' h' tk' F' N' l1 hI'; (try simp only [AllLt, and_true] at l1); (try k_sweep)) | (k_here; (with_reducible show wpAny _ _ (call (Value.ref 49) _) _ _ _); k_dflt (refine' gap_code_c (by k_asm) (by k_asm) (by k_asm) (by k_asm) (by first | exact rfl | assumption) (by ktr_room) (by k_asm) (by k_mem) (by k_mem) (by k_mem) (by l_ints) (by omega) (by omega) (by omega) (by omega) (by omega) (by omega) ?_; k_whole); intro t' h' tk' F' N'; (try k_sweep)) | (k_here; (with_reducible show wpAny _ _ (call (Value.ref 42) _) _ _ _); k_dflt (refine' gap_size_c (by k_asm) (by k_asm) (by k_asm) (by k_asm) (by first | exact rfl | assumption) (by ktr_room) (by k_asm) (by k_mem) (by k_mem) (by k_mem) (by l_ints) (by omega) (by omega) (by omega) (by omega) ?_; k_whole); intro t' h' tk' F' N'; (try k_sweep)) | (k_here; (with_reducible show wpAny _ _ (setItem (Value.ref _) (Value.ref _) (Value.ref _)) _ _ _); k_dflt (refine' setSlice_K (by k_asm) (by k_asm) (by k_updF) (by kmk_list) (by k_ne) (by l_ints) (by l_ints) (by omega) (by omega) (by omega) (by (simp only [sizeLine_eq]; omega)) ?_; k_whole); intro h' vs' n' F' N' hI'; (try dsimp only at N'); (try k_sweep)) | walk1) | (leave1; walk_say "STEP leave1"; try dsimp only) | fail "no step")
  refine hret _ _ _ _ (by assumption) (news_sub (by assumption) (by ktr_rel)) ?_
  (repeat' split) <;> omega
theorem buf_setmod_c (hdp2 : dp + 20 < recursionLimit) {b : Bool}
    (N : News h₀ L s.heap ((bf, instObj 319 bx) :: (bx, dictOf (bufEs w.params kb o g pt tp bv tb zv tz tk tt ck tc sk tsk) 20) :: own)) (o1 : @LT.lt Nat _ bx bf) (hoff : OwnOff own [bf, bx])
    (hret : ∀ tk2 sk2 t1 t2 h' tk', Fr h₀ L h' m → News h₀ L h' ((bf, instObj 319 bx) :: (bx, dictOf (bufEs w.params kb o g pt tp bv tb zv tz tk2 t1 ck tc sk2 t2) 20) :: own) →
      tk2 = (if b = true ∧ ¬ sk < tk then tk + 1 else tk) → sk2 = (if b = true then sk else tk) → Q .none { s with heap := h', toks := tk' }) :
    wpAny (model prog w) (ktrTop dp un gd cn cs L a ccd cl outer) (call (.ref 309) [.ref bf, .bool b]) Q E s := by
  refine wpAny_call ?_
  k_dflt ktr_enter
  repeat' (first | (k_unfold; (try dsimp only)) | (k_end; wrow_close) | (k_here; (with_reducible show wpAny _ _ (call (Value.ref 302) _) _ _ _); k_dflt (refine' buf_mod_c (by k_asm) (by k_asm) (by k_asm) (by k_asm) (by first | exact rfl | assumption) (by ktr_room) (by k_asm) (by k_mem) (by k_mem) ?_; k_whole); intro h' tk' F' N'; (try k_sweep)) | (k_here; (with_reducible show wpAny _ _ (call (Value.ref 70) _) _ _ _); k_dflt (refine' gap_widen_c (by k_asm) (by k_asm) (by k_asm) (by k_asm) (by first | exact rfl | assumption) (by ktr_room) (news_sel3 (by k_asm) (by tb_rel) (by tb_rel) (by tb_rel)) (by omega) (by omega) (by tb_start) (by l_ints) (by omega) (by omega) (by omega) (by omega) (by omega) (by omega) (by omega) (by omega) ?_; k_whole); intro h' tk' vs' ns' n' ge' t2' F' N' hI' he' hf' hl' hq' ht'; (try k_sweep)) | (k_here; (with_reducible show wpAny _ _ (call (Value.ref 63) _) _ _ _); k_dflt (refine' gap_move_c (by k_asm) (by k_asm) (by k_asm) (by k_asm) (by first | exact rfl | assumption) (by ktr_room) (news_sel3 (by k_asm) (by tb_rel) (by tb_rel) (by tb_rel)) (by omega) (by omega) (by tb_start) (by l_ints) (by omega) (by omega) (by omega) (by omega) (by omega) (by omega) ?_; k_whole); intro h' tk' vs' ns' n' ge' t1' t2' F' N' hI' he' hl' ht'; (try k_sweep)) | (k_here; (with_reducible show wpAny _ _ (call (Value.ref 56) _) _ _ _); k_dflt (refine' gap_codes_c (by k_asm) (by k_asm) (by k_asm) (by k_asm) (by first | exact rfl | assumption) (by ktr_room) (by k_asm) (by k_mem) (by k_mem) (by k_mem) (by l_ints) (by omega) (by omega) (by omega) (by omega) (by omega) (by omega) (by omega) ?_; k_whole); intro D' ws' h' tk' F' N' l1 hI'; (try simp only [AllLt, and_true] at l1); (try k_sweep)) | (k_here; (with_reducible show wpAny _ _ (call (Value.ref 49) _) _ _ _); k_dflt (refine' gap_code_c (by k_asm) (by k_asm) (by k_asm) (by k_asm) (by first | exact rfl | assumption) (by ktr_room) (by k_asm) (by k_mem) (by k_mem) (by k_mem) (by l_ints) (by omega) (by omega) (by omega) (by omega) (by omega) (by omega) ?_; k_whole); intro t' h' tk' F' N'; (try k_sweep)) | (k_here; (with_reducible show wpAny _ _ (call (Value.ref 42) _) _ _ _); k_dflt (refine' gap_size_c (by k_asm) (by k_asm) (by k_asm) (by k_asm) (by first | exact rfl | assumption) (by ktr_room) (by k_asm) (by k_mem) (by k_mem) (by k_mem) (by l_ints) (by omega) (by omega) (by omega) (by omega) ?_; k_whole); intro t' h' tk' F' N'; (try k_sweep)) | (k_here; (with_reducible show wpAny _ _ (setItem (Value.ref _) (Value.ref _) (Value.ref _)) _ _ _); k_dflt (refine' setSlice_K (by k_asm) (by k_asm) (by k_updF) (by kmk_list) (by k_ne) (by l_ints) (by l_ints) (by omega) (by omega) (by omega) (by (simp only [sizeLine_eq]; omega)) ?_; k_whole); intro h' vs' n' F' N' hI'; (try dsimp only at N'); (try k_sweep)) | walk1 | (dsimp only; first | (k_here; (with_reducible show wpAny _ _ (call (Value.ref 302) _) _ _ _); k_dflt (refine' buf_mod_c (by k_asm) (by k_asm) (by k_asm) (by k_asm) (by first | exact rfl | assumption) (by ktr_room) (by k_asm) (by k_mem) (by k_mem) ?_; k_whole); intro h' tk' F' N'; (try k_sweep)) | (k_here; (with_reducible show wpAny _ _ (call (Value.ref 70) _) _ _ _); k_dflt (refine' gap_widen_c (by k_asm) (by k_asm) (by k_asm) (by k_asm) (by first | exact rfl | assumption) (by ktr_room) (news_sel3 (by k_asm) (by tb_rel) (by tb_rel) (by tb_rel)) (by omega) (by omega) (by tb_start) (by l_ints) (by omega) (by omega) (by omega) (by omega) (by omega) (by omega) (by omega) (by omega) ?_; k_whole); intro h' tk' vs' ns' n' ge' t2' F' N' hI' he' hf' hl' hq' ht'; (try k_sweep)) | (k_here; (with_reducible show wpAny _ _ (call (Value.ref 63) _) _ _ _); k_dflt (refine' gap_move_c (by k_asm) (by k_asm) (by k_asm) (by k_asm) (by first | exact rfl | assumption) (by ktr_room) (news_sel3 (by k_asm) (by tb_rel) (by tb_rel) (by tb_rel)) (by omega) (by omega) (by tb_start) (by l_ints) (by omega) (by omega) (by omega) (by omega) (by omega) (by omega) ?_; k_whole); intro h' tk' vs' ns' n' ge' t1' t2' F' N' hI' he' hl' ht'; (try k_sweep)) | (k_here; (with_reducible show wpAny _ _ (call (Value.ref 56) _) _ _ _); k_dflt (refine' gap_codes_c (by k_asm) (by k_asm) (by k_asm) (by k_asm) (by first | exact rfl | assumption) (by ktr_room) (by k_asm) (by k_mem) (by k_mem) (by k_mem) (by l_ints) (by omega) (by omega) (by omega) (by omega) (by omega) (by omega) (by omega) ?_; k_whole); intro D' ws' h' tk' F' N' l1 hI'; (try simp only [AllLt, and_true] at l1); (try k_sweep)) | (k_here; (with_reducible show wpAny _ _ (call (Value.ref 49) _) _ _ _); k_dflt (refine' gap_code_c (by k_asm) (by k_asm) (by k_asm) (by k_asm) (by first | exact rfl | assumption) (by ktr_room) (by k_asm) (by k_mem) (by k_mem) (by k_mem) (by l_ints) (by omega) (by omega) (by omega) (by omega) (by omega) (by omega) ?_; k_whole); intro t' h' tk' F' N'; (try k_sweep)) | (k_here; (with_reducible show wpAny _ _ (call (Value.ref 42) _) _ _ _); k_dflt (refine' gap_size_c (by k_asm) (by k_asm) (by k_asm) (by k_asm) (by first | exact rfl | assumption) (by ktr_room) (by k_asm) (by k_mem) (by k_mem) (by k_mem) (by l_ints) (by omega) (by omega) (by omega) (by omega) ?_; k_whole); intro t' h' tk' F' N'; (try k_sweep)) | (k_here; (with_reducible show wpAny _ _ (setItem (Value.ref _) (Value.ref _) (Value.ref _)) _ _ _); k_dflt (refine' setSlice_K (by k_asm) (by k_asm) (by k_updF) (by kmk_list) (by k_ne) (by l_ints) (by l_ints) (by omega) (by omega) (by omega) (by (simp only [sizeLine_eq]; omega)) ?_; k_whole); intro h' vs' n' F' N' hI'; (try dsimp only at N'); (try k_sweep)) | walk1) | (leave1; walk_say "STEP leave1"; try dsimp only) | fail "no step")
  · rename (b = true) => hb
    subst hb
    exact hret _ _ _ _ _ _ (by assumption) (news_sub (by assumption) (by ktr_rel)) (by rw [if_neg (by simp; omega)]) (by simp)
  · rename (b = true) => hb
    subst hb
    exact hret _ _ _ _ _ _ (by assumption) (news_sub (by assumption) (by ktr_rel)) (by rw [if_pos (by simp; omega)]) (by simp)
  · rename (b = false) => hb
    subst hb
    exact hret _ _ _ _ _ _ (by assumption) (news_sub (by assumption) (by ktr_rel)) (by simp) (by simp)
theorem buf_touch_c {b : Bool}
    (N : News h₀ L s.heap ((bf, instObj 319 bx) :: (bx, dictOf (bufEs w.params kb o g pt tp bv tb zv tz tk tt ck tc sk tsk) 20) :: own)) (o1 : @LT.lt Nat _ bx bf) (hoff : OwnOff own [bf, bx])
    (hret : ∀ tk2 ck2 t1 t2 h' tk', Fr h₀ L h' m → News h₀ L h' ((bf, instObj 319 bx) :: (bx, dictOf (bufEs w.params kb o g pt tp bv tb zv tz tk2 t1 ck2 t2 sk tsk) 20) :: own) →
      tk2 = tk + 1 → ck2 = (if b = true then tk + 1 else ck) → Q .none { s with heap := h', toks := tk' }) :
    wpAny (model prog w) (ktrTop dp un gd cn cs L a ccd cl outer) (call (.ref 316) [.ref bf, .bool b]) Q E s := by
  refine wpAny_call ?_
  k_dflt ktr_enter
  repeat' (first | (k_unfold; (try dsimp only)) | (k_end; wrow_close) | (k_here; (with_reducible show wpAny _ _ (call (Value.ref 302) _) _ _ _); k_dflt (refine' buf_mod_c (by k_asm) (by k_asm) (by k_asm) (by k_asm) (by first | exact rfl | assumption) (by ktr_room) (by k_asm) (by k_mem) (by k_mem) ?_; k_whole); intro h' tk' F' N'; (try k_sweep)) | (k_here; (with_reducible show wpAny _ _ (call (Value.ref 70) _) _ _ _); k_dflt (refine' gap_widen_c (by k_asm) (by k_asm) (by k_asm) (by k_asm) (by first | exact rfl | assumption) (by ktr_room) (news_sel3 (by k_asm) (by tb_rel) (by tb_rel) (by tb_rel)) (by omega) (by omega) (by tb_start) (by l_ints) (by omega) (by omega) (by omega) (by omega) (by omega) (by omega) (by omega) (by omega) ?_; k_whole); intro h' tk' vs' ns' n' ge' t2' F' N' hI' he' hf' hl' hq' ht'; (try k_sweep)) | (k_here; (with_reducible show wpAny _ _ (call (Value.ref 63) _) _ _ _); k_dflt (refine' gap_move_c (by k_asm) (by k_asm) (by k_asm) (by k_asm) (by first | exact rfl | assumption) (by ktr_room) (news_sel3 (by k_asm) (by tb_rel) (by tb_rel) (by tb_rel)) (by omega) (by omega) (by tb_start) (by l_ints) (by omega) (by omega) (by omega) (by omega) (by omega) (by omega) ?_; k_whole); intro h' tk' vs' ns' n' ge' t1' t2' F' N' hI' he' hl' ht'; (try k_sweep)) | (k_here; (with_reducible show wpAny _ _ (call (Value.ref 56) _) _ _ _); k_dflt (refine' gap_codes_c (by k_asm) (by k_asm) (by k_asm) (by k_asm) (by first | exact rfl | assumption) (by ktr_room) (by k_asm) (by k_mem) (by k_mem) (by k_mem) (by l_ints) (by omega) (by omega) (by omega) (by omega) (by omega) (by omega) (by omega) ?_; k_whole); intro D' ws' h' tk' F' N' l1 hI'; (try simp only [AllLt, and_true] at l1); (try k_sweep)) | (k_here; (with_reducible show wpAny _ _ (call (Value.ref 49) _) _ _ _); k_dflt (refine' gap_code_c (by k_asm) (by k_asm) (by k_asm) (by k_asm) (by first | exact rfl | assumption) (by ktr_room) (by k_asm) (by k_mem) (by k_mem) (by k_mem) (by l_ints) (by omega) (by omega) (by omega) (by omega) (by omega) (by omega) ?_; k_whole); intro t' h' tk' F' N'; (try k_sweep)) | (k_here; (with_reducible show wpAny _ _ (call (Value.ref 42) _) _ _ _); k_dflt (refine' gap_size_c (by k_asm) (by k_asm) (by k_asm) (by k_asm) (by first | exact rfl | assumption) (by ktr_room) (by k_asm) (by k_mem) (by k_mem) (by k_mem) (by l_ints) (by omega) (by omega) (by omega) (by omega) ?_; k_whole); intro t' h' tk' F' N'; (try k_sweep)) | (k_here; (with_reducible show wpAny _ _ (setItem (Value.ref _) (Value.ref _) (Value.ref _)) _ _ _); k_dflt (refine' setSlice_K (by k_asm) (by k_asm) (by k_updF) (by kmk_list) (by k_ne) (by l_ints) (by l_ints) (by omega) (by omega) (by omega) (by (simp only [sizeLine_eq]; omega)) ?_; k_whole); intro h' vs' n' F' N' hI'; (try dsimp only at N'); (try k_sweep)) | walk1 | (dsimp only; first | (k_here; (with_reducible show wpAny _ _ (call (Value.ref 302) _) _ _ _); k_dflt (refine' buf_mod_c (by k_asm) (by k_asm) (by k_asm) (by k_asm) (by first | exact rfl | assumption) (by ktr_room) (by k_asm) (by k_mem) (by k_mem) ?_; k_whole); intro h' tk' F' N'; (try k_sweep)) | (k_here; (with_reducible show wpAny _ _ (call (Value.ref 70) _) _ _ _); k_dflt (refine' gap_widen_c (by k_asm) (by k_asm) (by k_asm) (by k_asm) (by first | exact rfl | assumption) (by ktr_room) (news_sel3 (by k_asm) (by tb_rel) (by tb_rel) (by tb_rel)) (by omega) (by omega) (by tb_start) (by l_ints) (by omega) (by omega) (by omega) (by omega) (by omega) (by omega) (by omega) (by omega) ?_; k_whole); intro h' tk' vs' ns' n' ge' t2' F' N' hI' he' hf' hl' hq' ht'; (try k_sweep)) | (k_here; (with_reducible show wpAny _ _ (call (Value.ref 63) _) _ _ _); k_dflt (refine' gap_move_c (by k_asm) (by k_asm) (by k_asm) (by k_asm) (by first | exact rfl | assumption) (by ktr_room) (news_sel3 (by k_asm) (by tb_rel) (by tb_rel) (by tb_rel)) (by omega) (by omega) (by tb_start) (by l_ints) (by omega) (by omega) (by omega) (by omega) (by omega) (by omega) ?_; k_whole); intro h' tk' vs' ns' n' ge' t1' t2' F' N' hI' he' hl' ht'; (try k_sweep)) | (k_here; (with_reducible show wpAny _ _ (call (Value.ref 56) _) _ _ _); k_dflt (refine' gap_codes_c (by k_asm) (by k_asm) (by k_asm) (by k_asm) (by first | exact rfl | assumption) (by ktr_room) (by k_asm) (by k_mem) (by k_mem) (by k_mem) (by l_ints) (by omega) (by omega) (by omega) (by omega) (by omega) (by omega) (by omega) ?_; k_whole); intro D' ws' h' tk' F' N' l1 hI'; (try simp only [AllLt, and_true] at l1); (try k_sweep)) | (k_here; (with_reducible show wpAny _ _ (call (Value.ref 49) _) _ _ _); k_dflt (refine' gap_code_c (by k_asm) (by k_asm) (by k_asm) (by k_asm) (by first | exact rfl | assumption) (by ktr_room) (by k_asm) (by k_mem) (by k_mem) (by k_mem) (by l_ints) (by omega) (by omega) (by omega) (by omega) (by omega) (by omega) ?_; k_whole); intro t' h' tk' F' N'; (try k_sweep)) | (k_here; (with_reducible show wpAny _ _ (call (Value.ref 42) _) _ _ _); k_dflt (refine' gap_size_c (by k_asm) (by k_asm) (by k_asm) (by k_asm) (by first | exact rfl | assumption) (by ktr_room) (by k_asm) (by k_mem) (by k_mem) (by k_mem) (by l_ints) (by omega) (by omega) (by omega) (by omega) ?_; k_whole); intro t' h' tk' F' N'; (try k_sweep)) | (k_here; (with_reducible show wpAny _ _ (setItem (Value.ref _) (Value.ref _) (Value.ref _)) _ _ _); k_dflt (refine' setSlice_K (by k_asm) (by k_asm) (by k_updF) (by kmk_list) (by k_ne) (by l_ints) (by l_ints) (by omega) (by omega) (by omega) (by (simp only [sizeLine_eq]; omega)) ?_; k_whole); intro h' vs' n' F' N' hI'; (try dsimp only at N'); (try k_sweep)) | walk1) | (leave1; walk_say "STEP leave1"; try dsimp only) | fail "no step")
  · rename (b = true) => hb
    subst hb
    exact hret _ _ _ _ _ _ (by assumption) (news_sub (by assumption) (by ktr_rel)) rfl (by simp)
  · rename (b = false) => hb
    subst hb
    exact hret _ _ _ _ _ _ (by assumption) (news_sub (by assumption) (by ktr_rel)) rfl (by simp)
end
end
section
theorem news_sel2 {h₀ h : Heap} {L : Addr} {l r1 r2 : List (Addr × Obj)} {a b : Addr × Obj} (N : News h₀ L h l) (s1 : Sel a l r1) (s2 : Sel b r1 r2) : News h₀ L h (a :: b :: r2) := fun p hp => by
  refine N p (s1.sub p ?_)
  rcases List.mem_cons.mp hp with rfl | hp
  · exact .head _
  · exact .tail _ (s2.sub p hp)
section
variable {prog : Program} {w : World} {p : Program} {loose : List Str} {mean : ExcName → Option Value} {mg mb : Str → Option Value}
variable {dp un : Nat} {gd : Option (List Code)} {cn : Str} {cs : Scope} {a : Addr} {ccd : Value} {cl : List (Str × Addr)} {outer : List Env} {A₀ : Around} {base h₀ : Heap} {L : Addr} {m : Str → Option Value} {s : Shared} {Q E : Value → Shared → Prop}
variable {g gx cx : Addr} {k : Nat → Tok} {room gs ge : Int} {tr ts te : Tok} {vs : List Value} {ns : List Int} {n : Nat} {own led : List (Addr × Obj)}
variable (B : Below A₀ base outer h₀) (F : Fr h₀ L s.heap m) (X : (KK w.params).In h₀) (T : Top p loose mean mg mb h₀) (hk : cs.kind = .function) (hdp : dp + 5 < recursionLimit)
include B F X T hk hdp
variable {bf bx : Addr} {kb : Nat → Tok} {o : Nat → Value} {pt bv zv tik ck sk : Int} {tp tb tz tt tc tsk : Tok}
variable {dk d0 : Addr} {c : Int} {tcc : Tok} {nd n0 : Nat} {ds : List Value} {dns : List Int}
theorem counted_c (hdp2 : dp + 60 < recursionLimit) {ct : Addr} {k0 k1 : Int} {q0 q1 : Tok} {nc : Nat}
    (N : News h₀ L s.heap ((dk, listOf #[.ref d0, .int c tcc] nd) :: (d0, listOf ds.toArray n0) :: (bf, instObj 319 bx) :: (bx, dictOf (bufEs w.params kb o g pt tp bv tb zv tz tik tt ck tc sk tsk) 20) :: (ct, listOf #[.int k0 q0, .int k1 q1] nc) :: own))
    (o1 : @LT.lt Nat _ d0 dk) (o2 : @LT.lt Nat _ dk bx) (o3 : @LT.lt Nat _ bx bf) (o4 : @LT.lt Nat _ bf ct) (hoff : OwnOff own [dk, bf, bx, ct])
    (hI : IntsAre ds dns) (hlen : dns.length ≤ 100) (hpos : 0 < dns.length) (hd : ∀ x ∈ dns, 0 ≤ x ∧ x ≤ 2000000) (hc0 : 0 ≤ c) (hc1 : c ≤ 90000)
    (hk0 : k0 = tik) (hk1 : k1 = sk) (hle : sk ≤ tik)
    (hret : ∀ h' tk' c' tc' tk2 tt2 ck2 tc2 sk2 ts2 k0' q0' k1' q1', Fr h₀ L h' m → News h₀ L h' ((dk, listOf #[.ref d0, .int c' tc'] nd) :: (d0, listOf ds.toArray n0) :: (bf, instObj 319 bx) :: (bx, dictOf (bufEs w.params kb o g pt tp bv tb zv tz tk2 tt2 ck2 tc2 sk2 ts2) 20) :: (ct, listOf #[.int k0' q0', .int k1' q1'] nc) :: own) →
      c' = c + 1 → k0' = tk2 → k1' = sk2 → sk2 ≤ tk2 → Q (.bool true) { s with heap := h', toks := tk' }) :
    wpAny (model prog w) (ktrTop dp un gd cn cs L a ccd cl outer) (call (.ref 352) [.ref dk, .ref bf, .ref ct]) Q E s := by
  refine wpAny_call ?_
  k_dflt ktr_enter
  repeat' (first | (k_unfold; (try dsimp only)) | (k_here; (with_reducible show wpAny _ _ (call (Value.ref 288) _) _ _ _); k_dflt (refine' buf_goto_c (by k_asm) (by k_asm) (by k_asm) (by k_asm) (by first | exact rfl | assumption) (by ktr_room) (news_sel2 (by k_asm) (by tb_rel) (by tb_rel)) (by omega) (by tb_start) ?_; k_whole); intro pt' t1' h' tk' F' N' hpt'; (try dsimp only); (try k_sweep)) | (k_here; (with_reducible show wpAny _ _ (call (Value.ref 316) _) _ _ _); k_dflt (refine' buf_touch_c (by k_asm) (by k_asm) (by k_asm) (by k_asm) (by first | exact rfl | assumption) (by ktr_room) (news_sel2 (by k_asm) (by tb_rel) (by tb_rel)) (by omega) (by tb_start) ?_; k_whole); intro tk2' ck2' t1' t2' h' tk' F' N' htk' hck'; (try dsimp only); (try k_sweep)) | (k_here; (with_reducible show wpAny _ _ (call (Value.ref 309) _) _ _ _); k_dflt (refine' buf_setmod_c (by k_asm) (by k_asm) (by k_asm) (by k_asm) (by first | exact rfl | assumption) (by ktr_room) (by ktr_room) (news_sel2 (by k_asm) (by tb_rel) (by tb_rel)) (by omega) (by tb_start) ?_; k_whole); intro tk2' sk2' t1' t2' h' tk' F' N' htk' hsk'; (try dsimp only); (try k_sweep)) | (k_here; (with_reducible show wpAny _ _ (call (Value.ref 333) _) _ _ _); k_dflt (refine' draw_c (by k_asm) (by k_asm) (by k_asm) (by k_asm) (by first | exact rfl | assumption) (by ktr_room) (news_sel2 (by k_asm) (by tb_rel) (by tb_rel)) (by omega) (by tb_start) (by l_ints) (by omega) (by omega) (by assumption) (by omega) (by omega) (by omega) (by omega) ?_; k_whole); intro h' tk' v' t' c' tc' F' N' hc' hv0' hv1'; (try dsimp only); (try k_sweep)) | (k_here; (with_reducible show wpAny _ _ (call (Value.ref 281) _) _ _ _); k_dflt (refine' buf_codes_c (by k_asm) (by k_asm) (by k_asm) (by k_asm) (by first | exact rfl | assumption) (by ktr_room) (by ktr_room) (by k_asm) (by k_mem) (by k_mem) (by k_mem) (by k_mem) (by k_mem) (by l_ints) (by omega) (by omega) (by omega) (by omega) (by omega) (by omega) (by omega) ?_; k_whole); intro D' ws' h' tk' F' N' l1 hI'; (try simp only [AllLt, and_true] at l1); (try dsimp only); (try k_sweep)) | (k_here; (with_reducible show wpAny _ _ (call (Value.ref 274) _) _ _ _); k_dflt (refine' buf_code_c (by k_asm) (by k_asm) (by k_asm) (by k_asm) (by first | exact rfl | assumption) (by ktr_room) (by ktr_room) (by k_asm) (by k_mem) (by k_mem) (by k_mem) (by k_mem) (by k_mem) (by l_ints) (by omega) (by omega) (by omega) (by omega) (by omega) (by omega) ?_; k_whole); intro t' h' tk' F' N'; (try dsimp only); (try k_sweep)) | (k_here; (with_reducible show wpAny _ _ (call (Value.ref 267) _) _ _ _); k_dflt (refine' buf_size_c (by k_asm) (by k_asm) (by k_asm) (by k_asm) (by first | exact rfl | assumption) (by ktr_room) (by ktr_room) (by k_asm) (by k_mem) (by k_mem) (by k_mem) (by k_mem) (by k_mem) (by l_ints) (by omega) (by omega) (by omega) (by omega) ?_; k_whole); intro t' h' tk' F' N'; (try dsimp only); (try k_sweep)) | (k_here; (with_reducible show wpAny _ _ (call (Value.ref 302) _) _ _ _); k_dflt (refine' buf_mod_c (by k_asm) (by k_asm) (by k_asm) (by k_asm) (by first | exact rfl | assumption) (by ktr_room) (by k_asm) (by k_mem) (by k_mem) ?_; k_whole); intro h' tk' F' N'; (try dsimp only); (try k_sweep)) | (k_here; (with_reducible show wpAny _ _ (call (Value.ref 295) _) _ _ _); k_dflt (refine' buf_tick_c (by k_asm) (by k_asm) (by k_asm) (by k_asm) (by first | exact rfl | assumption) (by ktr_room) (by k_asm) (by k_mem) (by k_mem) ?_; k_whole); intro h' tk' F' N'; (try dsimp only); (try k_sweep)) | (k_here; (with_reducible show wpAny _ _ (call (Value.ref 260) _) _ _ _); k_dflt (refine' buf_end_c (by k_asm) (by k_asm) (by k_asm) (by k_asm) (by first | exact rfl | assumption) (by ktr_room) (by k_asm) (by k_mem) (by k_mem) ?_; k_whole); intro h' tk' F' N'; (try dsimp only); (try k_sweep)) | (k_here; (with_reducible show wpAny _ _ (call (Value.ref 253) _) _ _ _); k_dflt (refine' buf_begin_c (by k_asm) (by k_asm) (by k_asm) (by k_asm) (by first | exact rfl | assumption) (by ktr_room) (by k_asm) (by k_mem) (by k_mem) ?_; k_whole); intro h' tk' F' N'; (try dsimp only); (try k_sweep)) | (k_here; (with_reducible show wpAny _ _ (setItem (Value.ref _) (Value.ref _) (Value.ref _)) _ _ _); k_dflt (refine' setSlice_K (by k_asm) (by k_asm) (by k_updF) (by kmk_list) (by k_ne) (by l_ints) (by l_ints) (by omega) (by omega) (by omega) (by (simp only [sizeLine_eq]; omega)) ?_; k_whole); intro h' vs' n' F' N' hI'; (try dsimp only at N'); (try k_sweep)) | walk1)
  · exfalso
    rename (_ ≠ List.getD _ _ _) => hne
    rename (_ = ite _ _ _) => hck
    rename (_ = (0 : Int)) => hv
    refine hne ?_
    show _ = k0 + 1
    rw [hck, if_pos (by simp [hv])]
    omega
  · refine hret _ _ _ _ _ _ _ _ _ _ _ _ _ _ (by assumption) (news_sub (by assumption) (by ktr_rel)) (by assumption) ?_ ?_ ?_
    · show k0 + 1 = _
      omega
    · exact hk1
    · omega
  · refine hret _ _ _ _ _ _ _ _ _ _ _ _ _ _ (by assumption) (news_sub (by assumption) (by ktr_rel)) (by assumption) ?_ ?_ ?_
    · show k0 + 1 = _
      omega
    · exact hk1
    · omega
  · rename (_ = ite _ (tik + 1) _) => htk
    rename (_ = ite _ sk _) => hsk
    replace htk := htk.trans (if_neg (by simp))
    replace hsk := hsk.trans (if_neg (by simp))
    refine hret _ _ _ _ _ _ _ _ _ _ _ _ _ _ (by assumption) (news_sub (by assumption) (by ktr_rel)) (by assumption) ?_ ?_ ?_
    · omega
    · show k0 = _
      omega
    · omega
  · rename (_ = ite _ (tik + 1) _) => htk
    rename (_ = ite _ sk _) => hsk
    rename (List.getD _ _ _ = List.getD _ _ _) => he
    replace he : k0 = k1 := he
    replace hsk := hsk.trans (if_pos rfl)
    replace htk := htk.trans (if_pos ⟨rfl, by omega⟩)
    refine hret _ _ _ _ _ _ _ _ _ _ _ _ _ _ (by assumption) (news_sub (by assumption) (by ktr_rel)) (by assumption) ?_ ?_ ?_
    · show k0 + 1 = _
      omega
    · omega
    · omega
  · rename (_ = ite _ (tik + 1) _) => htk
    rename (_ = ite _ sk _) => hsk
    rename (List.getD _ _ _ ≠ List.getD _ _ _) => he
    replace he : k0 ≠ k1 := he
    replace hsk := hsk.trans (if_pos rfl)
    replace htk := htk.trans (if_neg (by omega))
    refine hret _ _ _ _ _ _ _ _ _ _ _ _ _ _ (by assumption) (news_sub (by assumption) (by ktr_rel)) (by assumption) ?_ ?_ ?_
    · omega
    · omega
    · omega
end
end
section
open PySem PySem.W PyProof.Rows PySem.Calls PySem.Spec
section
variable {prog : Program} {w : World} {A : Around} {E : Value → Shared → Prop} {s : Shared} {env : Env} {h₀ : Heap} {x : Str} {body : List Stmt} {Q : Flow → Shared → Prop}
theorem map_forget {x y : Str} {m₁ m₀ : Str → Option Value} {v : Value} (hm : ∀ z, z ≠ x → z ≠ y → m₁ z = m₀ z) :
    (fun z => if z = x then some v else m₁ z) = fun z => if z = x then some v else if z = y then m₁ z else m₀ z := by
  funext z
  by_cases h1 : z = x
  · simp [h1]
  · simp only [if_neg h1]
    by_cases h2 : z = y
    · simp [h2]
    · simp only [if_neg h2]; exact hm z h1 h2
theorem done_forget {x y : Str} {m₁ m₀ : Str → Option Value} (hm : ∀ z, z ≠ x → z ≠ y → m₁ z = m₀ z) :
    m₁ = fun z => if z = x then m₁ z else if z = y then m₁ z else m₀ z := by
  funext z
  by_cases h1 : z = x
  · simp [h1]
  · simp only [if_neg h1]
    by_cases h2 : z = y
    · simp [h2]
    · simp only [if_neg h2]; exact hm z h1 h2
theorem small_ok {a b : Int} (ha : -1000000 ≤ a) (ha' : a ≤ 1000000) (hb : -1000000 ≤ b) (hb' : b ≤ 1000000) : Builtin.Range.small a b 1 = true := small_one (by omega) (by omega) (by omega) (by omega)
/-- a loop over a range that changes nothing but its own name and the name y -/
theorem iter_rangeF {r : Addr} {a₀ b₀ : Int} {t₀ u₀ v₀ : Tok} {m₀ : Str → Option Value} {news : List (Addr × Obj)} (y : Str)
    (hh : A.handled = none) (hr : IsRange s.heap r a₀ b₀ 1 t₀ u₀ v₀) (hsmall : Builtin.Range.small a₀ b₀ 1 = true) (F : Fr h₀ env.locals s.heap m₀) (N : News h₀ env.locals s.heap news)
    (turn : ∀ k t (u : Str → Option Value) h tk own, a₀ ≤ k → k < b₀ → OwnOff own (news.map (·.1)) → Fr h₀ env.locals h (fun z => if z = x then some (.int k t) else if z = y then u z else m₀ z) → News h₀ env.locals h (news ++ own) →
      wpAny (model prog w) A (execs body env) (InvPostN h₀ env.locals (fun m' nx => nx = news ∧ ∀ z, z ≠ x → z ≠ y → m' z = m₀ z) own (news.map (·.1)) { s with heap := h, toks := tk } Q) E { s with heap := h, toks := tk })
    (done : ∀ (u : Str → Option Value) h tk, Fr h₀ env.locals h (fun z => if z = x then u z else if z = y then u z else m₀ z) → News h₀ env.locals h news → Q .next { s with heap := h, toks := tk }) :
    wpAny (model prog w) A (pyIter (.ref r)) (fun it s₂ => LoopAtV prog w A h₀ env x body Q E it s₂) E s := by
  refine iter_rangeS (σ := Unit) (n := (b₀ - a₀).toNat) (fun _ m nx => nx = news ∧ ∀ z, z ≠ x → z ≠ y → m z = m₀ z) (fun _ _ => ()) () hh hr hsmall (rangeSize_nat _ _) F N ⟨rfl, fun _ _ _ => rfl⟩ ?_ ?_
  · rintro k t _ m₁ nx h tk own hk hsep ⟨rfl, hm⟩ F₁ N₁
    rw [map_forget hm] at F₁
    have hb := mem_rangeKs hk
    exact turn k t m₁ h tk own hb.1 (by omega) hsep F₁ N₁
  · rintro m₁ nx h tk ⟨rfl, hm⟩ F₁ N₁
    rw [done_forget hm] at F₁
    exact done m₁ h tk F₁ N₁
end
end
section
open PySem PySem.W PyProof.Rows PySem.Calls PySem.Spec
/-- two addresses that differ, hidden from omega -/
def NeA (a b : Addr) : Prop := a ≠ b
theorem NeA.out {a b : Addr} (h : NeA a b) : a ≠ b := h
theorem NeA.symm {a b : Addr} (h : NeA a b) : NeA b a := Ne.symm h
theorem off1_all {D : Addr} : ∀ {l : List (Addr × Obj)}, LCg.Off1 D l → ∀ p ∈ l, NeA p.1 D
  | [], _, _, h => nomatch h
  | _ :: _, x, p, h => by
    rcases List.mem_cons.mp h with rfl | h
    · exact x.1
    · exact off1_all x.2 p h
section
variable {prog : Program} {w : World} {A : Around} {s : Shared} {h₀ : Heap} {L : Addr} {m : Str → Option Value} {env : Env} {elt : Expr} {x : Str} {scope : Scope} {cl : List (Str × Addr)} {S : List (Addr × Obj) → Prop} {P : Nat → Value → Prop} {Fin : List Value → List (Addr × Obj) → Prop}
theorem compEnd_mono {s₁ s₂ : Shared} {I C D : Addr} {oI oC oD : Obj} {rest rest' : Value → List (Addr × Obj) → Prop} {y : Value} (h : ∀ y nw, rest y nw → rest' y nw) :
    LCg.CompEnd h₀ L m s₁ I oI C oC D oD S rest y s₂ → LCg.CompEnd h₀ L m s₁ I oI C oC D oD S rest' y s₂ := fun ⟨h', tk, nw, a, b, c, d, e, f⟩ => ⟨h', tk, nw, a, b, c, d, e, h _ _ f⟩
theorem compRest_inv (J : Nat → List Value → List (Addr × Obj) → Prop) (n : Nat)
    (turn : ∀ i v I oI C oC D m₂ h tk (E' : Value → Shared → Prop) ys nw, i < n → J i ys nw → P i v → LCg.NsObj oC m₂ → m₂ x = some v → Fr h₀ L h m → News h₀ L h ((I, oI) :: (C, oC) :: (D, LCg.lst ys) :: nw) → LCg.Off3 I C D nw → ((@Ne Nat I C) ∧ (@Ne Nat I D) ∧ (@Ne Nat C D)) →
      wpAny (model prog w) A (eval elt (compEnvC scope cl C env)) (LCg.CompEnd h₀ L m { s with heap := h, toks := tk } I oI C oC D (LCg.lst ys) S (fun y nw' => J (i + 1) (ys ++ [y]) nw')) E' { s with heap := h, toks := tk })
    (fin : ∀ ys nw, J n ys nw → Fin ys nw) :
    ∀ k i ys nw, i + k = n → J i ys nw → LCg.CompRest prog w A h₀ L m env elt x scope cl s S P Fin k i ys nw
  | 0, i, ys, nw, e, hj => LCg.CompRest.zero (fin ys nw (by have : i = n := by omega
                                                            exact this ▸ hj))
  | k + 1, i, ys, nw, e, hj => LCg.CompRest.succ fun v I oI C oC D m₂ h tk E' hP hN hm F N o3 ne =>
      wpAny_mono (turn i v I oI C oC D m₂ h tk E' ys nw (by omega) hj hP hN hm F N o3 ne)
        (fun y s₂ he => compEnd_mono (fun y nw' hj' => compRest_inv J n turn fin k (i + 1) (ys ++ [y]) nw' (by omega) hj') he) fun _ _ z => z
theorem ints_snoc : ∀ {vs : List Value} {ns : List Int} {x : Int} {t : Tok}, IntsAre vs ns → IntsAre (vs ++ [.int x t]) (ns ++ [x])
  | _, _, x, t, .nil => .cons x t .nil
  | _, _, _, _, .cons n t r => .cons n t (ints_snoc r)
/-- a comprehension whose element draws -/
theorem compRest_draw {dk d0 : Addr} {nd n0 : Nat} {ds : List Value} {c0 : Int} {tc0 : Tok} {rest0 : List (Addr × Obj)} {n : Nat}
    (turn : ∀ i v I oI C oC D m₂ h tk (E' : Value → Shared → Prop) ys c' tc', i < n → c' = c0 + (i : Int) → LCg.NsObj oC m₂ → m₂ x = some v → Fr h₀ L h m →
      News h₀ L h ((I, oI) :: (C, oC) :: (D, LCg.lst ys) :: (dk, listOf #[.ref d0, .int c' tc'] nd) :: (d0, listOf ds.toArray n0) :: rest0) →
      LCg.Off3 I C D ((dk, listOf #[.ref d0, .int c' tc'] nd) :: (d0, listOf ds.toArray n0) :: rest0) → (@Ne Nat I dk) → (@Ne Nat C dk) → (@Ne Nat D dk) →
      wpAny (model prog w) A (eval elt (compEnvC scope cl C env)) (LCg.CompEnd h₀ L m { s with heap := h, toks := tk } I oI C oC D (LCg.lst ys) S
        (fun y nw' => ∃ v t c'' tc'', y = .int v t ∧ c'' = c' + 1 ∧ nw' = (dk, listOf #[.ref d0, .int c'' tc''] nd) :: (d0, listOf ds.toArray n0) :: rest0)) E' { s with heap := h, toks := tk })
    (fin : ∀ c' tc' ys yns, c' = c0 + (n : Int) → IntsAre ys yns → yns.length = n → Fin ys ((dk, listOf #[.ref d0, .int c' tc'] nd) :: (d0, listOf ds.toArray n0) :: rest0)) :
    LCg.CompRest prog w A h₀ L m env elt x scope cl s S P Fin n 0 [] ((dk, listOf #[.ref d0, .int c0 tc0] nd) :: (d0, listOf ds.toArray n0) :: rest0) := by
  refine compRest_inv (fun i ys nw => ∃ c' tc', nw = (dk, listOf #[.ref d0, .int c' tc'] nd) :: (d0, listOf ds.toArray n0) :: rest0 ∧ c' = c0 + (i : Int) ∧ ∃ yns, IntsAre ys yns ∧ yns.length = i) n ?_ ?_ n 0 [] _ (by omega) ⟨c0, tc0, rfl, by simp, [], .nil, rfl⟩
  · rintro i v I oI C oC D m₂ h tk E' ys nw hi ⟨c', tc', rfl, hc, yns, hy, hl⟩ _ hN hm F N o3 ne
    refine wpAny_mono (turn i v I oI C oC D m₂ h tk E' ys c' tc' hi hc hN hm F N o3 (Ne.symm o3.1.1) (Ne.symm o3.1.2.1) (Ne.symm o3.1.2.2)) (fun y s₂ he => compEnd_mono ?_ he) fun _ _ z => z
    rintro y nw ⟨v', t, c'', tc'', rfl, hc', rfl⟩
    exact ⟨c'', tc'', rfl, by rw [hc', hc]; push_cast; omega, yns ++ [v'], ints_snoc hy, by rw [List.length_append, hl]; rfl⟩
  · rintro ys nw ⟨c', tc', rfl, hc, yns, hy, hl⟩
    exact fin c' tc' ys yns hc hy hl
end
end
section
open PySem PySem.W PyProof.Rows PySem.Calls PySem.Spec
theorem ownOff_one {own : List (Addr × Obj)} {D : Addr} (h : AllLt D own) : OwnOff own [D] := fun p hp b hb => by
  have h1 := ktn_ltOf h p hp
  rw [List.mem_singleton.mp hb]
  exact Nat.ne_of_lt h1
theorem ownOff_both {own : List (Addr × Obj)} {a : Addr} {r : List Addr} (h : OwnOff own [a]) (h' : OwnOff own r) : OwnOff own (a :: r) := fun p hp b hb => by
  rcases List.mem_cons.mp hb with rfl | hb
  · exact h p hp _ (.head _)
  · exact h' p hp b hb
section
variable {prog : Program} {w : World} {A : Around} {E : Value → Shared → Prop} {s : Shared} {env : Env} {h₀ : Heap} {x : Str} {body : List Stmt} {Q : Flow → Shared → Prop}
/-- the end of a turn -/
def TurnJ (h₀ : Heap) (L : Addr) (J : (Str → Option Value) → List (Addr × Obj) → Prop) (own : List (Addr × Obj)) (s₁ s₂ : Shared) : Prop :=
  ∃ h' tk m' news' nx, s₂ = { s₁ with heap := h', toks := tk } ∧ Fr h₀ L h' m' ∧ News h₀ L h' news' ∧ (∀ p ∈ nx, p ∈ news') ∧ (∀ p ∈ own, p ∈ news') ∧ OwnOff own (nx.map (·.1)) ∧ J m' nx
def PostJ (h₀ : Heap) (L : Addr) (J : (Str → Option Value) → List (Addr × Obj) → Prop) (own : List (Addr × Obj)) (s₁ : Shared) (Q : Flow → Shared → Prop) (f : Flow) (s₂ : Shared) : Prop :=
  match f with
  | .ret v => Q (.ret v) s₂
  | .brk => Q .next s₂
  | _ => TurnJ h₀ L J own s₁ s₂
theorem iter_rangeJ {r : Addr} {a₀ b₀ : Int} {t₀ u₀ v₀ : Tok} {n : Nat} {m₀ : Str → Option Value} {news : List (Addr × Obj)} (J : Nat → (Str → Option Value) → List (Addr × Obj) → Prop)
    (hh : A.handled = none) (hr : IsRange s.heap r a₀ b₀ 1 t₀ u₀ v₀) (hsmall : Builtin.Range.small a₀ b₀ 1 = true) (hn : Builtin.Range.rangeSize a₀ b₀ 1 = (n : Int)) (F : Fr h₀ env.locals s.heap m₀) (N : News h₀ env.locals s.heap news) (hj : J 0 m₀ news)
    (turn : ∀ (i : Nat) (k : Int) t m₁ news₁ h tk own, i < n → OwnOff own (news₁.map (·.1)) → J i m₁ news₁ → Fr h₀ env.locals h (fun y => if y = x then some (.int k t) else m₁ y) → News h₀ env.locals h (news₁ ++ own) →
      wpAny (model prog w) A (execs body env) (PostJ h₀ env.locals (J (i + 1)) own { s with heap := h, toks := tk } Q) E { s with heap := h, toks := tk })
    (done : ∀ m₁ news₁ h tk, J n m₁ news₁ → Fr h₀ env.locals h m₁ → News h₀ env.locals h news₁ → Q .next { s with heap := h, toks := tk }) :
    wpAny (model prog w) A (pyIter (.ref r)) (fun it s₂ => LoopAtV prog w A h₀ env x body Q E it s₂) E s := by
  refine wpAny_pyIter_range hr hsmall ?_
  have W : Walks prog w A s.heap.objs.size [s.heap.objs.size] [s.heap.objs.size] n (fun i v => i < n ∧ ∃ t, v = .int (a₀ + i * 1) t)
      (fun i h => IsRangeIter h s.heap.objs.size (a₀ + (i : Nat) * 1) ((n : Int) - (i : Nat)) 1) := (Walks.range hh _ a₀ 1 n).bound
  refine ⟨_, _, _, n, _, _, m₀, news, J, rfl, W, ?_, ?_, ?_, (by show IsRangeIter _ _ _ _ _; rw [hn]; simpa using Heap.get?_push_size _ rfl), F.push _, (fun p hp => ⟨Heap.get?_push_of_some _ (N p hp).1, (N p hp).2⟩), hj, ?_, ?_⟩
  · intro hm
    exact absurd F.ns.lt ((List.mem_singleton.mp hm) ▸ Nat.lt_irrefl _)
  · intro b hb
    rw [List.mem_singleton.mp hb]
    exact next_is_new F
  · intro p hp hI
    exact absurd (Heap.lt_size (N p hp).1) ((List.mem_singleton.mp hI) ▸ Nat.lt_irrefl _)
  · rintro i v m₁ news₁ s₁ own ⟨hh', tk', rfl⟩ hin ⟨_, t, rfl⟩ hJ hoff hown _ hall hst F₁ N₁
    have hsep : OwnOff own (news₁.map (·.1)) := by
      intro p hp b hb e
      obtain ⟨q, hq, rfl⟩ := List.mem_map.mp hb
      exact hoff q hq (e ▸ hown p hp)
    have N₂ : News h₀ env.locals hh' (news₁ ++ own) := fun p hp => N₁ p ((List.mem_append.mp hp).elim (fun h => List.mem_append.mpr (.inr h)) fun h => List.mem_append.mpr (.inl h))
    have hI : ∃ oI, (s.heap.objs.size, oI) ∈ own := by
      have st' : hh'.get? s.heap.objs.size = some _ := hst
      exact ⟨_, hall s.heap.objs.size (by simp) (next_is_new F) _ st'⟩
    obtain ⟨oI, hIm⟩ := hI
    refine wpAny_mono (turn i (a₀ + i * 1) t m₁ news₁ hh' tk' own hin hsep hJ F₁ N₂) (fun f s₂ p => ?_) fun _ _ e => e
    have fin : TurnJ h₀ env.locals (J (i + 1)) own { s with heap := hh', toks := tk' } s₂ → LoopStepU h₀ env.locals [s.heap.objs.size] own (J (i + 1)) { s with heap := hh', toks := tk' } .next s₂ := by
      rintro ⟨h', tk, m', news', nx, e, F', N', hnx, ho, ha, hm⟩
      refine ⟨rfl, h', tk, m', nx, e, F', fun p hp => N' p ((List.mem_append.mp hp).elim (ho p) (hnx p)), fun p hp hq => ?_, hm⟩
      exact ha (s.heap.objs.size, oI) hIm p.1 (List.mem_map.mpr ⟨p, hp, rfl⟩) (List.mem_singleton.mp hq).symm
    cases f with
    | ret v => exact .ret p
    | brk => exact .brk p
    | next => exact .next (fin p)
    | cont => exact .cont (fin p)
  · rintro h' tk m' news' F' N' _ hJ
    exact done m' news' h' tk hJ F' N'
end
end
theorem ne_same {prog : Program} {w : World} {A : Around} {E : Value → Shared → Prop} {s : Shared} {x y : Int} {t u : Tok} {Q : Value → Shared → Prop} (h : x = y) (k : Q (.bool false) s) :
    wpAny (model prog w) A (compareOp .NotEq (.int x t) (.int y u)) Q E s := PyProof.Rows.ne_int (by rw [h]; simpa using k)
theorem ne_ints_same {prog : Program} {w : World} {A : Around} {E : Value → Shared → Prop} {s : Shared} {a b : Addr} {vs us : List Value} {ns ms : List Int} {Q : Value → Shared → Prop} (hl : s.heap.IsList a vs.toArray) (hi : IntsAre vs ns) (hl' : s.heap.IsList b us.toArray) (hi' : IntsAre us ms)
    (hu : A.units + 64 < cLine) (e : ns = ms) (h : Q (.bool false) s) : wpAny (model prog w) A (compareOp .NotEq (.ref a) (.ref b)) Q E s :=
  ne_intsK hl hi hl' hi' hu (by rw [decide_eq_true e]; exact h)
theorem eq_ints_same {prog : Program} {w : World} {A : Around} {E : Value → Shared → Prop} {s : Shared} {a b : Addr} {vs us : List Value} {ns ms : List Int} {Q : Value → Shared → Prop} (hl : s.heap.IsList a vs.toArray) (hi : IntsAre vs ns) (hl' : s.heap.IsList b us.toArray) (hi' : IntsAre us ms)
    (hu : A.units + 64 < cLine) (e : ns = ms) (h : Q (.bool true) s) : wpAny (model prog w) A (compareOp .Eq (.ref a) (.ref b)) Q E s :=
  eq_intsK hl hi hl' hi' hu (by rw [decide_eq_true e]; exact h)
theorem units_fit {dp un : Nat} {gd : Option (List Code)} {cn : Str} {cs : Scope} {a : Addr} {ccd : Value} {cl : List (Str × Addr)} {outer : List Env} {L : Addr} {env : Env} (h : un + 100 < cLine) : ((ktrTop dp un gd cn cs L a ccd cl outer).deeper env).units + 64 < cLine := by
  rw [units_deeper]
  show un + 3 + 64 < cLine
  omega
local macro_rules | `(tactic| walk_at "compareOp NotEq int int") => `(tactic| (k_here; (with_reducible refine ne_same ?hne ?_); (case hne => first | rfl | exact if_pos ⟨by omega, by omega⟩ | exact if_neg (by omega) | assumption)))
section
local macro_rules | `(tactic| k_ownIn) => `(tactic| first | exact List.mem_append_left _ (by assumption) | exact List.mem_append_right _ (by assumption))
local macro_rules | `(tactic| walk_at "InvEndN") => `(tactic| (refine InvEndN.intro (by assumption) (by assumption) ⟨rfl, ?lm⟩ rfl ?lh ?lo; (case lm => (intro z h1 h2; simp only [if_neg h1, if_neg h2])); (case lh => ktr_rel); (case lo => ktr_rel)))
theorem news_in6 {h₀ h : Heap} {L : Addr} {l : List (Addr × Obj)} {a b c d e f : Addr × Obj} (N : News h₀ L h l) (ha : a ∈ l) (hb : b ∈ l) (hc : c ∈ l) (hd : d ∈ l) (he : e ∈ l) (hf : f ∈ l) : News h₀ L h (a :: b :: c :: d :: e :: f :: l) :=
  news_in3 (news_in3 N hd he hf) (.tail _ (.tail _ (.tail _ ha))) (.tail _ (.tail _ (.tail _ hb))) (.tail _ (.tail _ (.tail _ hc)))
section
variable {prog : Program} {w : World} {p : Program} {loose : List Str} {mean : ExcName → Option Value} {mg mb : Str → Option Value}
variable {dp un : Nat} {gd : Option (List Code)} {cn : Str} {cs : Scope} {a : Addr} {ccd : Value} {cl : List (Str × Addr)} {outer : List Env} {A₀ : Around} {base h₀ : Heap} {L : Addr} {m : Str → Option Value} {s : Shared} {Q E : Value → Shared → Prop}
variable {g gx cx : Addr} {k : Nat → Tok} {room gs ge : Int} {tr ts te : Tok} {vs : List Value} {ns : List Int} {n : Nat} {own led : List (Addr × Obj)}
variable (B : Below A₀ base outer h₀) (F : Fr h₀ L s.heap m) (X : (KK w.params).In h₀) (T : Top p loose mean mg mb h₀) (hk : cs.kind = .function) (hdp : dp + 5 < recursionLimit)
include B F X T hk hdp
variable {bf bx : Addr} {kb : Nat → Tok} {o : Nat → Value} {pt bv zv tk ck sk : Int} {tp tb tz tt tc tsk : Tok}
theorem right_c (hdp2 : dp + 40 < recursionLimit) (hun : un + 100 < cLine) {rw' : Addr} {rs : List Value} {nr : Nat} {tl th : Tok}
    (N : News h₀ L s.heap led) (m1 : (bf, instObj 319 bx) ∈ led) (m2 : (bx, dictOf (bufEs w.params kb o g pt tp bv tb zv tz tk tt ck tc sk tsk) 20) ∈ led)
    (m3 : (g, instObj 108 gx) ∈ led) (m4 : (gx, dictOf (gapEs w.params k room tr cx gs ts ge te) 4) ∈ led) (m5 : (cx, listOf vs.toArray n) ∈ led) (m6 : (rw', listOf rs.toArray nr) ∈ led)
    (hI : IntsAre vs ns) (hR : IntsAre rs (txt ns gs ge)) (hlen : ns.length ≤ 10000) (hgs : 0 ≤ gs) (hge : gs ≤ ge) (hge2 : ge ≤ ns.length) (hb : 1 ≤ bv) (hz : zv ≤ ns.length - ge + gs + 1)
    (hret : ∀ h' tk', Fr h₀ L h' m → News h₀ L h' led → Q (.bool true) { s with heap := h', toks := tk' }) :
    wpAny (model prog w) (ktrTop dp un gd cn cs L a ccd cl outer) (call (.ref 340) [.ref bf, .ref rw', .int bv tl, .int zv th]) Q E s := by
  replace N := news_in6 N m1 m2 m3 m4 m5 m6
  clear m1 m2 m3 m4 m5 m6
  have hT := txt_length hgs hge hge2
  refine wpAny_call ?_
  k_dflt ktr_enter
  repeat' (first | (k_unfold; (try dsimp only)) | ((with_reducible show wpAny _ _ (pyIter (Value.ref _)) (fun it s₂ => LoopAtV _ _ _ _ _ _ _ _ _ it s₂) _ _); k_of "start" "end" => ((rename Fr _ _ _ _ => lF'); (rename News _ _ _ _ => lN'); (rename IsRange _ _ _ _ _ _ _ _ => rgX); (with_unfolding_all refine' iter_rangeF (PySem.Str.ofString "end") (by rfl) (by first | exact rgX | assumption) (small_ok (by omega) (by omega) (by omega) (by omega)) lF' lN' (fun k' t' u' h' tk' own' hlo' hhi' hoff' F' N' => ?_) (fun u' h' tk' F' N' => ?_)); (all_goals (try clear lF' lN' rgX)); (all_goals (try simp only [List.nil_append, List.cons_append, List.append_nil] at N')); (all_goals (try k_fold)))) | ((with_reducible show wpAny _ _ (pyIter (Value.ref _)) (fun it s₂ => LoopAtV _ _ _ _ _ _ _ _ _ it s₂) _ _); k_of "place" => ((rename Fr _ _ _ _ => lF'); (rename News _ _ _ _ => lN'); (rename IsRange _ _ _ _ _ _ _ _ => rgX); (with_unfolding_all refine' iter_rangeF (PySem.Str.ofString "due") (by rfl) (by first | exact rgX | assumption) (small_ok (by omega) (by omega) (by omega) (by omega)) lF' lN' (fun k' t' u' h' tk' own' hlo' hhi' hoff' F' N' => ?_) (fun u' h' tk' F' N' => ?_)); (all_goals (try clear lF' lN' rgX)); (all_goals (try simp only [List.nil_append, List.cons_append, List.append_nil] at N')); (all_goals (try k_fold)))) | (k_here; (with_reducible show wpAny _ _ (subscriptTail _ (PySem.Expr.Slice (some _) (some _) none _) (Value.ref _) (Value.ref _)) _ _ _); k_dflt (refine' kmk_slice_ints (by k_asm) (by k_asm) (by kmk_list) (by kmk_part) (by kmk_part) (by l_ints) (by exact kmk_run (by l_ints) (by omega) (by omega)) (by exact rfl) ?_ (by with_unfolding_all rfl) (by kmk_pure) (by exact kmk_sz (by l_ints) (by rw [sizeLine_eq]; omega))); intro D' ws' h' F' N' l1 hI' hC' hL'; clear hC' hL'; (try k_lt l1); (try k_sweep)) | (k_here; (with_reducible show wpAny _ _ (compareOp CmpOp.NotEq (Value.ref _) (Value.ref _)) _ _ _); (with_unfolding_all refine' ne_ints_same (by is_list) (by l_ints) (by is_list) (by l_ints) (by exact units_fit (by assumption)) (by exact (sl_part _ _ _).symm) ?_; k_whole)) | (k_here; (with_reducible show wpAny _ _ (call (Value.ref 281) _) _ _ _); k_dflt (refine' buf_codes_c (by k_asm) (by k_asm) (by k_asm) (by k_asm) (by first | exact rfl | assumption) (by ktr_room) (by ktr_room) (by k_asm) (by k_mem) (by k_mem) (by k_mem) (by k_mem) (by k_mem) (by l_ints) (by omega) (by omega) (by omega) (by omega) (by omega) (by omega) (by omega) ?_; k_whole); intro D' ws' h' tk' F' N' l1 hI'; (try simp only [AllLt, and_true] at l1); (try dsimp only); (try k_sweep)) | (k_here; (with_reducible show wpAny _ _ (call (Value.ref 274) _) _ _ _); k_dflt (refine' buf_code_c (by k_asm) (by k_asm) (by k_asm) (by k_asm) (by first | exact rfl | assumption) (by ktr_room) (by ktr_room) (by k_asm) (by k_mem) (by k_mem) (by k_mem) (by k_mem) (by k_mem) (by l_ints) (by omega) (by omega) (by omega) (by omega) (by omega) (by omega) ?_; k_whole); intro t' h' tk' F' N'; (try dsimp only); (try k_sweep)) | (k_here; (with_reducible show wpAny _ _ (call (Value.ref 267) _) _ _ _); k_dflt (refine' buf_size_c (by k_asm) (by k_asm) (by k_asm) (by k_asm) (by first | exact rfl | assumption) (by ktr_room) (by ktr_room) (by k_asm) (by k_mem) (by k_mem) (by k_mem) (by k_mem) (by k_mem) (by l_ints) (by omega) (by omega) (by omega) (by omega) ?_; k_whole); intro t' h' tk' F' N'; (try dsimp only); (try k_sweep)) | (k_here; (with_reducible show wpAny _ _ (call (Value.ref 302) _) _ _ _); k_dflt (refine' buf_mod_c (by k_asm) (by k_asm) (by k_asm) (by k_asm) (by first | exact rfl | assumption) (by ktr_room) (by k_asm) (by k_mem) (by k_mem) ?_; k_whole); intro h' tk' F' N'; (try dsimp only); (try k_sweep)) | (k_here; (with_reducible show wpAny _ _ (call (Value.ref 295) _) _ _ _); k_dflt (refine' buf_tick_c (by k_asm) (by k_asm) (by k_asm) (by k_asm) (by first | exact rfl | assumption) (by ktr_room) (by k_asm) (by k_mem) (by k_mem) ?_; k_whole); intro h' tk' F' N'; (try dsimp only); (try k_sweep)) | (k_here; (with_reducible show wpAny _ _ (call (Value.ref 260) _) _ _ _); k_dflt (refine' buf_end_c (by k_asm) (by k_asm) (by k_asm) (by k_asm) (by first | exact rfl | assumption) (by ktr_room) (by k_asm) (by k_mem) (by k_mem) ?_; k_whole); intro h' tk' F' N'; (try dsimp only); (try k_sweep)) | (k_here; (with_reducible show wpAny _ _ (call (Value.ref 253) _) _ _ _); k_dflt (refine' buf_begin_c (by k_asm) (by k_asm) (by k_asm) (by k_asm) (by first | exact rfl | assumption) (by ktr_room) (by k_asm) (by k_mem) (by k_mem) ?_; k_whole); intro h' tk' F' N'; (try dsimp only); (try k_sweep)) | (k_here; (with_reducible show wpAny _ _ (setItem (Value.ref _) (Value.ref _) (Value.ref _)) _ _ _); k_dflt (refine' setSlice_K (by k_asm) (by k_asm) (by k_updF) (by kmk_list) (by k_ne) (by l_ints) (by l_ints) (by omega) (by omega) (by omega) (by (simp only [sizeLine_eq]; omega)) ?_; k_whole); intro h' vs' n' F' N' hI'; (try dsimp only at N'); (try k_sweep)) | walk1)
  exact hret _ _ (by assumption) (news_sub (by assumption) (by ktr_rel))
end
end
theorem sl_part_of {rns T : List Int} (h : rns = T) (x y : Int) : part T x y = sl rns x y := by rw [h, sl_part]
theorem ne_of_all {D a : Addr} {o : Obj} {l : List (Addr × Obj)} (h : ∀ p ∈ l, NeA p.1 D) (hm : (a, o) ∈ l) : a ≠ D := h _ hm
local macro_rules | `(tactic| k_ne) => `(tactic| first | exact ne_of_all (by with_reducible assumption) (by k_memK) | exact (ne_of_all (by with_reducible assumption) (by k_memK)).symm)
section
local macro_rules | `(tactic| walk_at "CompSrc") => `(tactic| (k_here; k_dflt (refine LCg.CompSrc.range (by rfl) (by k_asm) (by k_asm) (by assumption) (small_ok (by omega) (by omega) (by omega) (by omega)) (rangeSize_nat _ _) (by rw [sizeLine_eq]; omega) ?_); intro g9; k_dflt (refine compRest_draw (fun i v I oI C oC D m₂ h tk E' ys c' tc' hi hc hN hm F N o3 n1 n2 n3 => ?_) (fun c' tc' ys yns hc hy hl => ?_))))
local macro_rules | `(tactic| walk_at "CompEnd") => `(tactic| (refine' LCg.CompEnd.intro (by assumption) (by assumption) ?nw ?sub ?off trivial ⟨_, _, ?c2, ?tc2, rfl, ?hc, rfl⟩; (case hc => assumption); (case sub => ktr_rel); (case off => assumption)))
local macro_rules | `(tactic| walk_at "FinA") => `(tactic| ((unfold LCg.FinA); intro D' h' tk' F' N' o1'; (have o2' := off1_all o1'); clear o1'; (try simp only [List.nil_append, List.cons_append] at N'); (try dsimp only)))
section
variable {prog : Program} {w : World} {p : Program} {loose : List Str} {mean : ExcName → Option Value} {mg mb : Str → Option Value}
variable {dp un : Nat} {gd : Option (List Code)} {cn : Str} {cs : Scope} {a : Addr} {ccd : Value} {cl : List (Str × Addr)} {outer : List Env} {A₀ : Around} {base h₀ : Heap} {L : Addr} {m : Str → Option Value} {s : Shared} {Q E : Value → Shared → Prop}
variable {g gx cx : Addr} {k : Nat → Tok} {room gs ge : Int} {tr ts te : Tok} {vs : List Value} {ns : List Int} {n : Nat} {own led : List (Addr × Obj)}
variable (B : Below A₀ base outer h₀) (F : Fr h₀ L s.heap m) (X : (KK w.params).In h₀) (T : Top p loose mean mg mb h₀) (hk : cs.kind = .function) (hdp : dp + 5 < recursionLimit)
include B F X T hk hdp
variable {bf bx : Addr} {kb : Nat → Tok} {o : Nat → Value} {pt bv zv tik ck sk : Int} {tp tb tz tt tc tsk : Tok}
variable {dk d0 : Addr} {c : Int} {tcc : Tok} {nd n0 : Nat} {ds : List Value} {dns : List Int}
theorem edit_c (hdp2 : dp + 60 < recursionLimit) (hun : un + 100 < cLine) {rw' : Addr} {rs : List Value} {nr : Nat} {rns : List Int}
    (N : News h₀ L s.heap ((dk, listOf #[.ref d0, .int c tcc] nd) :: (d0, listOf ds.toArray n0) :: (bf, instObj 319 bx) :: (bx, dictOf (bufEs w.params kb o g pt tp bv tb zv tz tik tt ck tc sk tsk) 20) ::
      (g, instObj 108 gx) :: (gx, dictOf (gapEs w.params k room tr cx gs ts ge te) 4) :: (cx, listOf vs.toArray n) :: (rw', listOf rs.toArray nr) :: own))
    (o1 : @LT.lt Nat _ d0 dk) (o2 : @LT.lt Nat _ dk bx) (o3 : @LT.lt Nat _ bx bf) (o4 : @LT.lt Nat _ bf gx) (o5 : @LT.lt Nat _ gx g) (o6 : @LT.lt Nat _ g cx) (o7 : @LT.lt Nat _ cx rw') (hoff : OwnOff own [dk, bf, bx, g, gx, cx])
    (hD : IntsAre ds dns) (hlen : dns.length ≤ 100) (hpos : 0 < dns.length) (hd : ∀ x ∈ dns, 0 ≤ x ∧ x ≤ 2000000) (hc0 : 0 ≤ c) (hc1 : c ≤ 80000)
    (hI : IntsAre vs ns) (hR : IntsAre rs rns) (hrns : rns = txt ns gs ge) (hlen2 : ns.length ≤ 8000) (hgs : 0 ≤ gs) (hge : gs ≤ ge) (hge2 : ge ≤ ns.length) (hr0 : 0 ≤ room) (hr1 : room ≤ 10) (hrow : rns.length ≤ 10)
    (hret : ∀ h' tk' D us rns' c' tc' vs' ns' n' gs' ge' t1 t2, Fr h₀ L h' m → News h₀ L h' ((D, listOf (List.toArray us) 0) :: (dk, listOf #[.ref d0, .int c' tc'] nd) :: (d0, listOf ds.toArray n0) :: (bf, instObj 319 bx) :: (bx, dictOf (bufEs w.params kb o g pt tp bv tb zv tz tik tt ck tc sk tsk) 20) ::
      (g, instObj 108 gx) :: (gx, dictOf (gapEs w.params k room tr cx gs' t1 ge' t2) 4) :: (cx, listOf (List.toArray vs') n') :: own) →
      @LT.lt Nat _ cx D → AllLt D own → IntsAre us rns' → rns' = txt ns' gs' ge' → rns'.length ≤ 10 → c ≤ c' → c' ≤ c + 10 → IntsAre vs' ns' → ns'.length ≤ ns.length + 120 → 0 ≤ gs' → gs' ≤ ge' → ge' ≤ ns'.length → Q (.ref D) { s with heap := h', toks := tk' }) :
    wpAny (model prog w) (ktrTop dp un gd cn cs L a ccd cl outer) (call (.ref 345) [.ref dk, .ref bf, .ref rw']) Q E s := by
  have hT := txt_length hgs hge hge2
  rw [← hrns] at hT
  refine wpAny_call ?_
  k_dflt (refine' code_defC ?k1 ?k2 ?k3 ?k4 ?k5 ?kA ?kF ?kK ?k6 ?k7 ?k8 ?k9 ?kB ?kD ?_ ?c2 ?c3 ?c4; (case kA => exact rfl); (case kF => exact rfl); (case kK => assumption); (case k1 => k_asm); (case k2 => k_asm); (case k3 => k_asm); (case k4 => k_asm); (case k5 => k_asm); (case k6 => k_is); (case k7 => k_is); (case k8 => ktr_room); (case k9 => exact BindsTo.of_eq rfl); (case kB => exact rfl); (case kD => decide +kernel); (case c2 => exact rfl); (case c3 => exact rfl); (case c4 => exact rfl); k_whole; intro g' L' h' tk' cells' FG' F' N' Y' B' X' T' l1; (try k_lt l1); k_cells Y'; (try simp only [List.cons_append, List.nil_append] at N'); (try dsimp only); (try k_fold))
  repeat' (first | (k_unfold; (try dsimp only)) | (k_here; (with_reducible show wpAny _ _ (call (Value.ref 84) _) _ _ _); k_dflt (refine' gap_delete_c (by k_asm) (by k_asm) (by k_asm) (by k_asm) (by first | exact rfl | assumption) (by ktr_room) (by ktr_room) (news_sel3 (by k_asm) (by tb_rel) (by tb_rel) (by tb_rel)) (by omega) (by omega) (by tb_start) (by l_ints) (by omega) (by omega) (by omega) (by omega) (by omega) (by omega) (by omega) ?_; k_whole); intro D' ws' h' tk' vs' ns' n' ge' t1' t2' F' N' hcD' l1 hJ' hI' hg1' hg2' hl' ht'; (try simp only [AllLt, and_true] at l1); (try dsimp only); (try k_sweep)) | (k_here; (with_reducible show wpAny _ _ (call (Value.ref 77) _) _ _ _); k_dflt (refine' gap_insert_c (by k_asm) (by k_asm) (by k_asm) (by k_asm) (by first | exact rfl | assumption) (by ktr_room) (by ktr_room) (news_sel4 (by k_asm) (by tb_rel) (by tb_rel) (by tb_rel) (by tb_rel)) (by omega) (by omega) (by omega) (by tb_start) (by l_ints) (by l_ints) (by omega) (by omega) (by omega) (by omega) (by omega) (by omega) (by omega) (by omega) (by omega) ?_; k_whole); intro h' tk' vs' ns' n' gs' ge' t1' t2' F' N' hI' hg0' hg1' hg2' hl' ht'; (try dsimp only); (try k_sweep)) | (k_here; (with_reducible show wpAny _ _ (call (Value.ref 288) _) _ _ _); k_dflt (refine' buf_goto_c (by k_asm) (by k_asm) (by k_asm) (by k_asm) (by first | exact rfl | assumption) (by ktr_room) (news_sel2 (by k_asm) (by tb_rel) (by tb_rel)) (by omega) (by tb_start) ?_; k_whole); intro pt' t1' h' tk' F' N' hpt'; (try dsimp only); (try k_sweep)) | (k_here; (with_reducible show wpAny _ _ (call (Value.ref 316) _) _ _ _); k_dflt (refine' buf_touch_c (by k_asm) (by k_asm) (by k_asm) (by k_asm) (by first | exact rfl | assumption) (by ktr_room) (news_sel2 (by k_asm) (by tb_rel) (by tb_rel)) (by omega) (by tb_start) ?_; k_whole); intro tk2' ck2' t1' t2' h' tk' F' N' htk' hck'; (try dsimp only); (try k_sweep)) | (k_here; (with_reducible show wpAny _ _ (call (Value.ref 309) _) _ _ _); k_dflt (refine' buf_setmod_c (by k_asm) (by k_asm) (by k_asm) (by k_asm) (by first | exact rfl | assumption) (by ktr_room) (by ktr_room) (news_sel2 (by k_asm) (by tb_rel) (by tb_rel)) (by omega) (by tb_start) ?_; k_whole); intro tk2' sk2' t1' t2' h' tk' F' N' htk' hsk'; (try dsimp only); (try k_sweep)) | (k_here; (with_reducible show wpAny _ _ (call (Value.ref 333) _) _ _ _); k_dflt (refine' draw_c (by k_asm) (by k_asm) (by k_asm) (by k_asm) (by first | exact rfl | assumption) (by ktr_room) (news_sel2 (by k_asm) (by tb_rel) (by tb_rel)) (by omega) (by tb_start) (by l_ints) (by omega) (by omega) (by assumption) (by omega) (by omega) (by omega) (by omega) ?_; k_whole); intro h' tk' v' t' c' tc' F' N' hc' hv0' hv1'; (try dsimp only); (try k_sweep)) | (k_here; (with_reducible show wpAny _ _ (subscriptTail _ (PySem.Expr.Slice (some _) none none _) (Value.ref _) (Value.ref _)) _ _ _); k_dflt (refine' kmk_slice_ints (by k_asm) (by k_asm) (by kmk_list) (by kmk_part) (by kmk_part) (by l_ints) (by exact kmk_from (by l_ints) (by omega)) (by exact rfl) ?_ (by with_unfolding_all rfl) (by kmk_pure) (by exact kmk_sz (by l_ints) (by rw [sizeLine_eq]; omega))); intro D' ws' h' F' N' l1 hI' hC' hL'; clear hC' hL'; (try k_lt l1); (try k_sweep)) | (k_here; (with_reducible show wpAny _ _ (subscriptTail _ (PySem.Expr.Slice none (some _) none _) (Value.ref _) (Value.ref _)) _ _ _); k_dflt (refine' kmk_slice_ints (by k_asm) (by k_asm) (by kmk_list) (by kmk_part) (by kmk_part) (by l_ints) (by exact kmk_upto (by l_ints) (by omega)) (by exact rfl) ?_ (by with_unfolding_all rfl) (by kmk_pure) (by exact kmk_sz (by l_ints) (by rw [sizeLine_eq]; omega))); intro D' ws' h' F' N' l1 hI' hC' hL'; clear hC' hL'; (try k_lt l1); (try k_sweep)) | (k_here; (with_reducible show wpAny _ _ (compareOp CmpOp.Eq (Value.ref _) (Value.ref _)) _ _ _); (with_unfolding_all refine' eq_ints_same (by is_list) (by l_ints) (by is_list) (by l_ints) (by exact units_fit (by assumption)) (by first | exact (sl_part _ _ _).symm | exact sl_part_of (by assumption) _ _) ?_; k_whole)) | (k_here; (with_reducible show wpAny _ _ (subscriptTail _ (PySem.Expr.Slice (some _) (some _) none _) (Value.ref _) (Value.ref _)) _ _ _); k_dflt (refine' kmk_slice_ints (by k_asm) (by k_asm) (by kmk_list) (by kmk_part) (by kmk_part) (by l_ints) (by exact kmk_run (by l_ints) (by omega) (by omega)) (by exact rfl) ?_ (by with_unfolding_all rfl) (by kmk_pure) (by exact kmk_sz (by l_ints) (by rw [sizeLine_eq]; omega))); intro D' ws' h' F' N' l1 hI' hC' hL'; clear hC' hL'; (try k_lt l1); (try k_sweep)) | (k_here; (with_reducible show wpAny _ _ (compareOp CmpOp.NotEq (Value.ref _) (Value.ref _)) _ _ _); (with_unfolding_all refine' ne_ints_same (by is_list) (by l_ints) (by is_list) (by l_ints) (by exact units_fit (by assumption)) (by first | exact (sl_part _ _ _).symm | exact sl_part_of (by assumption) _ _) ?_; k_whole)) | (k_here; (with_reducible show wpAny _ _ (setItem (Value.ref _) (Value.ref _) (Value.ref _)) _ _ _); k_dflt (refine' setSlice_K (by k_asm) (by k_asm) (by k_updF) (by kmk_list) (by k_ne) (by l_ints) (by l_ints) (by omega) (by omega) (by omega) (by (simp only [sizeLine_eq]; omega)) ?_; k_whole); intro h' vs' n' F' N' hI'; (try dsimp only at N'); (try k_sweep)) | walk1)
  · rename (txt _ _ _ = _ ++ _ ++ _) => ht
    refine hret _ _ _ _ _ _ _ _ _ _ _ _ _ _ (by assumption) (news_sub (by assumption) (by ktr_rel)) ?_ ?_ (by assumption) ?_ ?_ ?_ ?_ (by assumption) ?_ ?_ ?_ ?_
    · omega
    · rename (_ ∧ _) => l9
      repeat (first | exact l9 | replace l9 := l9.2)
    · rw [hrns]
      exact ht.symm
    · simp only [List.length_append, List.length_take, List.length_drop]
      omega
    · omega
    · omega
    · omega
    · omega
    · omega
    · omega
  · rename (txt _ _ _ = _ ++ _) => ht
    refine hret _ _ _ _ _ _ _ _ _ _ _ _ _ _ (by assumption) (news_sub (by assumption) (by ktr_rel)) ?_ ?_ (by assumption) ?_ ?_ ?_ ?_ (by assumption) ?_ ?_ ?_ ?_
    · omega
    · rename (_ ∧ _) => l9
      repeat (first | exact l9 | replace l9 := l9.2)
    · rw [hrns]
      exact ht.symm
    · simp only [List.length_append, List.length_take, List.length_drop]
      omega
    · omega
    · omega
    · omega
    · omega
    · omega
    · omega
  · rename (txt _ _ _ = _ ++ _) => ht
    refine hret _ _ _ _ _ _ _ _ _ _ _ _ _ _ (by assumption) (news_sub (by assumption) (by ktr_rel)) ?_ ?_ (by assumption) ?_ ?_ ?_ ?_ (by assumption) ?_ ?_ ?_ ?_
    · omega
    · rename (_ ∧ _) => l9
      repeat (first | exact l9 | replace l9 := l9.2)
    · rw [hrns]
      exact ht.symm
    · simp only [List.length_append, List.length_take, List.length_drop]
      omega
    · omega
    · omega
    · omega
    · omega
    · omega
    · omega
end
end
section
inductive Sels : List (Addr × Obj) → List (Addr × Obj) → List (Addr × Obj) → Prop
  | nil {r} : Sels [] r r
  | cons {e es l r1 r} : Sel e l r1 → Sels es r1 r → Sels (e :: es) l r
theorem Sels.sub {es l r : List (Addr × Obj)} (h : Sels es l r) : ∀ p ∈ es ++ r, p ∈ l := by
  induction h with
  | nil => exact fun _ h => h
  | cons s _ ih =>
    intro p hp
    refine s.sub p ?_
    rcases List.mem_cons.mp hp with rfl | hp
    · exact .head _
    · exact .tail _ (ih p hp)
theorem news_sels {h₀ h : Heap} {L : Addr} {es l r : List (Addr × Obj)} (N : News h₀ L h l) (s : Sels es l r) : News h₀ L h (es ++ r) := fun p hp => N p (s.sub p hp)
theorem ints_eq {rs : List Value} {rns T : List Int} (h : IntsAre rs rns) (e : rns = T) : IntsAre rs T := e ▸ h
theorem txt_len_of {rns ns : List Int} {gs ge : Int} (h0 : 0 ≤ gs) (h1 : gs ≤ ge) (h2 : ge ≤ ns.length) (e : rns = txt ns gs ge) : (rns.length : Int) = ns.length - ge + gs := by rw [e]; exact txt_length h0 h1 h2
local macro_rules | `(tactic| tb_rel) => `(tactic| first | exact Sels.nil | (refine' Sels.cons ?sa ?sb; (case sa => tb_rel); (case sb => tb_rel)))
local macro_rules | `(tactic| k_ne) => `(tactic| first | exact NeA.out (by with_reducible assumption) | exact (NeA.out (by with_reducible assumption)).symm)
local macro_rules | `(tactic| walk_at "compareOp NotEq int int") => `(tactic| (k_here; (with_reducible refine ne_same ?hne ?_); (case hne => first | rfl | exact rfl | ((rename (_ = min (max _ _) _) => hpt9); rw [hpt9]; (repeat' split) <;> omega))))
local macro_rules | `(tactic| walk_at "PostJ") => `(tactic| (dsimp only [PostJ]))
theorem item_written {prog : Program} {w : World} {A : Around} {E : Value → Shared → Prop} {s : Shared} {h₀ : Heap} {L l : Addr} {news : List (Addr × Obj)} {value slice : PySem.Expr} {vs : List Value} {n : Nat} {k : Int} {u : Tok} {v : Value} {Q : Value → Shared → Prop}
    (N : News h₀ L s.heap news) (hm : (l, listOf (List.toArray vs) n) ∈ news) (h0 : 0 ≤ k) (hhi : k < 2 ^ 63) (hx : vs[k.toNat]? = some v) (h : Q v s)
    (hs : subscripted slice false (.ref l) (.int k u) = operate [.ref l, .int k u] (getItem (.ref l) (.int k u))) :
    wpAny (model prog w) A (subscriptTail value slice (.ref l) (.int k u)) Q E s :=
  have hl : s.heap.IsList l (List.toArray vs) := PySem.IsL.isList (n := n) (N _ hm).1
  tail_any hl.typeIs slot_list_getitem.lookup (wpAny_getItem_list hl h0 hhi (by simpa using hx) h) hs
def lawDef : Stmt := (PySem.Challenge.pw_on0067_01.main.body.getLast?).getD (.Pass ⟨0, 0, 0, 0⟩)
def lawBody : List Stmt := match lawDef with
  | .FunctionDef _ _ b _ _ _ _ _ _ _ => b
  | _ => []
def lawScope : Scope := match lawDef with
  | .FunctionDef _ _ _ _ _ _ s _ _ _ => s
  | _ => default
def turnBody : List Stmt := match lawBody with
  | _ :: _ :: .For _ _ b _ _ :: _ => b
  | _ => []
theorem map_four {m : Str → Option Value} {a b c d : Str} {va vb vc vd : Value} (ha : m a = some va) (hb : m b = some vb) (hc : m c = some vc) (hd : m d = some vd) :
    m = fun z => if z = a then some va else if z = b then some vb else if z = c then some vc else if z = d then some vd else m z := by
  funext z
  by_cases h1 : z = a
  · rw [if_pos h1, h1, ha]
  · rw [if_neg h1]
    by_cases h2 : z = b
    · rw [if_pos h2, h2, hb]
    · rw [if_neg h2]
      by_cases h3 : z = c
      · rw [if_pos h3, h3, hc]
      · rw [if_neg h3]
        by_cases h4 : z = d
        · rw [if_pos h4, h4, hd]
        · rw [if_neg h4]
theorem lawScope_fn : lawScope.kind = .function := by rfl
section
variable {prog : Program} {w : World} {p : Program} {loose : List Str} {mean : ExcName → Option Value} {mg mb : Str → Option Value}
variable {dp un : Nat} {gd : Option (List Code)} {a : Addr} {ccd : Value} {outer : List Env} {A₀ : Around} {base h₀ : Heap} {L : Addr} {m : Str → Option Value} {s : Shared} {Q : Flow → Shared → Prop} {E : Value → Shared → Prop}
/-- what holds between the turns: the ledger, the names -/
def LawJ (P : Params) (dk d0 bf bx g gx cx ct : Addr) (nd n0 nc : Nat) (ds : List Value) (kb k : Nat → Tok) (o : Nat → Value) (room : Int) (tr : Tok) (i : Nat) (m : Str → Option Value) (nw : List (Addr × Obj)) : Prop :=
  ∃ (c pt bv zv tik ck sk gs ge : Int) (tcc tp tb tz tt tc tsk ts te q0 q1 : Tok) (vs rs : List Value) (ns rns : List Int) (n nr : Nat) (rw' : Addr),
    nw = [(dk, listOf #[.ref d0, .int c tcc] nd), (d0, listOf ds.toArray n0), (bf, instObj 319 bx), (bx, dictOf (bufEs P kb o g pt tp bv tb zv tz tik tt ck tc sk tsk) 20),
      (g, instObj 108 gx), (gx, dictOf (gapEs P k room tr cx gs ts ge te) 4), (cx, listOf vs.toArray n), (rw', listOf rs.toArray nr), (ct, listOf #[.int tik q0, .int sk q1] nc)] ∧
    m "deck" = some (.ref dk) ∧ m "buffer" = some (.ref bf) ∧ m "row" = some (.ref rw') ∧ m "counts" = some (.ref ct) ∧
    (@LT.lt Nat _ cx rw') ∧ NeA rw' ct ∧ IntsAre vs ns ∧ IntsAre rs rns ∧ rns = txt ns gs ge ∧ rns.length ≤ 10 ∧ 0 ≤ gs ∧ gs ≤ ge ∧ ge ≤ ns.length ∧ ns.length ≤ 10 + 120 * i ∧ 0 ≤ c ∧ c ≤ 10 + 40 * (i : Int) ∧ 1 ≤ bv ∧ bv ≤ zv ∧ zv ≤ rns.length + 1 ∧ sk ≤ tik
theorem turn_end {P : Params} {h₀ h' : Heap} {L : Addr} {s₁ : Shared} {tk' : Nat} {m' : Str → Option Value} {all own : List (Addr × Obj)}
    {dk d0 bf bx g gx cx ct rw' rw0 : Addr} {nd n0 nc : Nat} {ds : List Value} {kb k : Nat → Tok} {o : Nat → Value} {room : Int} {tr : Tok} {i : Nat}
    {c pt bv zv tik ck sk gs ge : Int} {tcc tp tb tz tt tc tsk ts te q0 q1 : Tok} {vs rs : List Value} {ns rns : List Int} {n nr : Nat}
    (F : Fr h₀ L h' m') (N : News h₀ L h' all)
    (e1 : m' "deck" = some (.ref dk)) (e2 : m' "buffer" = some (.ref bf)) (e3 : m' "row" = some (.ref rw')) (e4 : m' "counts" = some (.ref ct))
    (sub : ∀ p ∈ [(dk, listOf #[.ref d0, .int c tcc] nd), (d0, listOf ds.toArray n0), (bf, instObj 319 bx), (bx, dictOf (bufEs P kb o g pt tp bv tb zv tz tik tt ck tc sk tsk) 20),
      (g, instObj 108 gx), (gx, dictOf (gapEs P k room tr cx gs ts ge te) 4), (cx, listOf vs.toArray n), (rw', listOf rs.toArray nr), (ct, listOf #[.int tik q0, .int sk q1] nc)], p ∈ all)
    (ho : ∀ p ∈ own, p ∈ all) (hoff : OwnOff own [dk, d0, bf, bx, g, gx, cx, rw0, ct]) (hrw : AllLt rw' own ∨ rw' = rw0)
    (x1 : @LT.lt Nat _ cx rw') (x2 : NeA rw' ct) (x3 : IntsAre vs ns) (x4 : IntsAre rs rns) (x5 : rns = txt ns gs ge) (x6 : rns.length ≤ 10) (x7 : 0 ≤ gs) (x8 : gs ≤ ge) (x9 : ge ≤ ns.length) (x10 : ns.length ≤ 10 + 120 * (i + 1))
    (x11 : 0 ≤ c) (x12 : c ≤ 10 + 40 * ((i : Int) + 1)) (x13 : 1 ≤ bv) (x14 : bv ≤ zv) (x15 : zv ≤ rns.length + 1) (x16 : sk ≤ tik) :
    TurnJ h₀ L (LawJ P dk d0 bf bx g gx cx ct nd n0 nc ds kb k o room tr (i + 1)) own s₁ { s₁ with heap := h', toks := tk' } := by
  refine ⟨h', tk', m', all, _, rfl, F, N, sub, ho, ?_, c, pt, bv, zv, tik, ck, sk, gs, ge, tcc, tp, tb, tz, tt, tc, tsk, ts, te, q0, q1, vs, rs, ns, rns, n, nr, rw', rfl, e1, e2, e3, e4, x1, x2, x3, x4, x5, x6, x7, x8, x9, x10, x11, by push_cast; exact x12, x13, x14, x15, x16⟩
  intro p hp b hb
  by_cases hq : b = rw'
  · subst hq
    rcases hrw with h | h
    · exact Nat.ne_of_lt (ktn_ltOf h p hp)
    · rw [h]; exact hoff p hp _ (by simp)
  · refine hoff p hp b ?_
    simp only [List.map_cons, List.map_nil, List.mem_cons, List.not_mem_nil, or_false] at hb ⊢
    rcases hb with hb | hb | hb | hb | hb | hb | hb | hb | hb
    all_goals first | exact absurd hb hq | simp [hb]
theorem loop_c {cs : Scope} {body : List Stmt} (B : Below A₀ base outer h₀) (F : Fr h₀ L s.heap m) (X : (KK w.params).In h₀) (T : Top p loose mean mg mb h₀) (hdp : dp + 100 < recursionLimit) (hun : un + 150 < cLine)
    {dk d0 bf bx g gx cx ct : Addr} {nd n0 nc : Nat} {ds : List Value} {dns : List Int} {kb k : Nat → Tok} {o : Nat → Value} {room : Int} {tr : Tok} {news : List (Addr × Obj)} {r : Addr} {b₀ : Int} {t₀ u₀ v₀ : Tok}
    (hcs : cs = lawScope) (hbody : body = turnBody)
    (N : News h₀ L s.heap news) (hJ : LawJ w.params dk d0 bf bx g gx cx ct nd n0 nc ds kb k o room tr 0 m news)
    (o1 : @LT.lt Nat _ d0 dk) (o2 : @LT.lt Nat _ dk bx) (o3 : @LT.lt Nat _ bx bf) (o4 : @LT.lt Nat _ bf gx) (o5 : @LT.lt Nat _ gx g) (o6 : @LT.lt Nat _ g cx) (o7 : @LT.lt Nat _ cx ct)
    (hD : IntsAre ds dns) (hlen : dns.length ≤ 100) (hpos : 0 < dns.length) (hd : ∀ x ∈ dns, 0 ≤ x ∧ x ≤ 2000000) (hr0 : 0 ≤ room) (hr1 : room ≤ 10)
    (hr : IsRange s.heap r 0 b₀ 1 t₀ u₀ v₀) (hb0 : 0 ≤ b₀) (hb1 : b₀ ≤ 9)
    (hdone : ∀ h' tk' m', Fr h₀ L h' m' → News h₀ L h' [] → Q .next { s with heap := h', toks := tk' }) :
    wpAny (model prog w) (ktrTop dp un gd (PySem.Str.ofString "law") cs L a ccd [] outer) (pyIter (.ref r))
      (fun it s₂ => LoopAtV prog w (ktrTop dp un gd (PySem.Str.ofString "law") cs L a ccd [] outer) h₀ (envX (PySem.Str.ofString "law") cs L a ccd []) (PySem.Str.ofString "turn") body Q E it s₂) E s := by
  refine iter_rangeJ (n := b₀.toNat) (LawJ w.params dk d0 bf bx g gx cx ct nd n0 nc ds kb k o room tr) rfl hr (small_ok (by omega) (by omega) (by omega) (by omega)) (by rw [rangeSize_nat]; congr 1; omega) F N hJ ?_ ?_
  · clear hJ N F hr hdone
    rintro i kk t m₁ news₁ h tk own hi hoff ⟨c, pt, bv, zv, tik, ck, sk, gs, ge, tcc, tp, tb, tz, tt, tc, tsk, ts, te, q0, q1, vs, rs, ns, rns, n, nr, rw', rfl, e1, e2, e3, e4, x1, x2, x3, x4, x5, x6, x7, x8, x9, x10, x11, x12, x13, x14, x15, x16⟩ F N
    rw [map_four e1 e2 e3 e4] at F
    clear e1 e2 e3 e4
    have hT := txt_len_of x7 x8 x9 x5
    have hi9 : (i : Int) ≤ 8 := by omega
    simp only [List.cons_append, List.nil_append, List.map_cons, List.map_nil] at N hoff
    have hk : cs.kind = .function := by rw [hcs]; exact lawScope_fn
    have eb : turnBody = turnBody := rfl
    conv at eb => rhs; whnf
    have es : lawScope = lawScope := rfl
    conv at es => rhs; whnf
    rw [eb] at hbody
    rw [es] at hcs
    subst hcs hbody
    clear eb es
    replace F : Fr h₀ L h _ := F
    replace N : News h₀ L h _ := N
    with_reducible show wpAny _ _ _ _ _ _
    k_fold
    repeat' (first | (k_unfold; (try dsimp only)) | (k_here; (with_reducible show wpAny _ _ (subscriptTail _ _ (Value.ref _) (Value.int _ _)) _ _ _); k_dflt (refine' item_written (by k_asm) (by k_mem) (by decide) (by decide) (by exact rfl) ?_ (by with_unfolding_all rfl))) | (k_here; (with_reducible show wpAny _ _ (call (Value.ref 340) _) _ _ _); k_dflt (refine' right_c (by k_asm) (by k_asm) (by k_asm) (by k_asm) (by first | exact rfl | assumption) (by omega) (by omega) (by omega) (by k_asm) (by k_mem) (by k_mem) (by k_mem) (by k_mem) (by k_mem) (by k_mem) (by l_ints) (by exact ints_eq (by l_ints) (by assumption)) (by omega) (by omega) (by omega) (by omega) (by omega) (by omega) ?_; k_whole); intro h' tk' F' N'; (try dsimp only); (try k_sweep)) | (k_here; (with_reducible show wpAny _ _ (call (Value.ref 352) _) _ _ _); k_dflt (refine' counted_c (by k_asm) (by k_asm) (by k_asm) (by k_asm) (by first | exact rfl | assumption) (by omega) (by omega) (news_sels (es := [_, _, _, _, _]) (by k_asm) (by tb_rel)) (by omega) (by omega) (by omega) (by omega) (by tb_start) (by l_ints) (by omega) (by omega) (by assumption) (by omega) (by omega) (by exact rfl) (by exact rfl) (by omega) ?_; k_whole); intro h' tk' c' tc' tk2' tt2' ck2' tc2' sk2' ts2' k0' q0' k1' q1' F' N' hc' hk0' hk1' hle'; (subst hk0'); (subst hk1'); (try simp only [List.append_eq, List.nil_append, List.cons_append] at N'); (try dsimp only); (try k_sweep)) | (k_here; (with_reducible show wpAny _ _ (call (Value.ref 345) _) _ _ _); k_dflt (refine' edit_c (by k_asm) (by k_asm) (by k_asm) (by k_asm) (by first | exact rfl | assumption) (by omega) (by omega) (by omega) (news_sels (es := [_, _, _, _, _, _, _, _]) (by k_asm) (by tb_rel)) (by omega) (by omega) (by omega) (by omega) (by omega) (by omega) (by omega) (by tb_start) (by l_ints) (by omega) (by omega) (by assumption) (by omega) (by omega) (by l_ints) (by l_ints) (by assumption) (by omega) (by omega) (by omega) (by omega) (by omega) (by omega) (by omega) ?_; k_whole); intro h' tk' D' us' rns' c' tc' vs' ns' n' gs' ge' t1' t2' F' N' hcD' l1 hJ' hrn' hrl' hc0' hc1' hI' hnl' hg0' hg1' hg2'; (have hT' := txt_len_of hg0' hg1' hg2' hrn'); (try simp only [List.append_eq, List.nil_append, List.cons_append] at N'); (try simp only [List.append_eq, List.nil_append, List.cons_append] at l1); (try simp only [AllLt, and_true] at l1); (try dsimp only); (try k_sweep)) | (k_here; (with_reducible show wpAny _ _ (call (Value.ref 288) _) _ _ _); k_dflt (refine' buf_goto_c (by k_asm) (by k_asm) (by k_asm) (by k_asm) (by first | exact rfl | assumption) (by ktr_room) (news_sel2 (by k_asm) (by tb_rel) (by tb_rel)) (by omega) (by tb_start) ?_; k_whole); intro pt' t1' h' tk' F' N' hpt'; (try dsimp only); (try k_sweep)) | (k_here; (with_reducible show wpAny _ _ (call (Value.ref 316) _) _ _ _); k_dflt (refine' buf_touch_c (by k_asm) (by k_asm) (by k_asm) (by k_asm) (by first | exact rfl | assumption) (by ktr_room) (news_sel2 (by k_asm) (by tb_rel) (by tb_rel)) (by omega) (by tb_start) ?_; k_whole); intro tk2' ck2' t1' t2' h' tk' F' N' htk' hck'; (try dsimp only); (try k_sweep)) | (k_here; (with_reducible show wpAny _ _ (call (Value.ref 309) _) _ _ _); k_dflt (refine' buf_setmod_c (by k_asm) (by k_asm) (by k_asm) (by k_asm) (by first | exact rfl | assumption) (by ktr_room) (by ktr_room) (news_sel2 (by k_asm) (by tb_rel) (by tb_rel)) (by omega) (by tb_start) ?_; k_whole); intro tk2' sk2' t1' t2' h' tk' F' N' htk' hsk'; (try dsimp only); (try k_sweep)) | (k_here; (with_reducible show wpAny _ _ (call (Value.ref 333) _) _ _ _); k_dflt (refine' draw_c (by k_asm) (by k_asm) (by k_asm) (by k_asm) (by first | exact rfl | assumption) (by ktr_room) (news_sel2 (by k_asm) (by tb_rel) (by tb_rel)) (by omega) (by tb_start) (by l_ints) (by omega) (by omega) (by assumption) (by omega) (by omega) (by omega) (by omega) ?_; k_whole); intro h' tk' v' t' c' tc' F' N' hc' hv0' hv1'; (try dsimp only); (try k_sweep)) | (k_here; (with_reducible show wpAny _ _ (subscriptTail _ (PySem.Expr.Slice (some _) none none _) (Value.ref _) (Value.ref _)) _ _ _); k_dflt (refine' kmk_slice_ints (by k_asm) (by k_asm) (by kmk_list) (by kmk_part) (by kmk_part) (by l_ints) (by exact kmk_from (by l_ints) (by omega)) (by exact rfl) ?_ (by with_unfolding_all rfl) (by kmk_pure) (by exact kmk_sz (by l_ints) (by rw [sizeLine_eq]; omega))); intro D' ws' h' F' N' l1 hI' hC' hL'; clear hC' hL'; (try k_lt l1); (try k_sweep)) | (k_here; (with_reducible show wpAny _ _ (subscriptTail _ (PySem.Expr.Slice none (some _) none _) (Value.ref _) (Value.ref _)) _ _ _); k_dflt (refine' kmk_slice_ints (by k_asm) (by k_asm) (by kmk_list) (by kmk_part) (by kmk_part) (by l_ints) (by exact kmk_upto (by l_ints) (by omega)) (by exact rfl) ?_ (by with_unfolding_all rfl) (by kmk_pure) (by exact kmk_sz (by l_ints) (by rw [sizeLine_eq]; omega))); intro D' ws' h' F' N' l1 hI' hC' hL'; clear hC' hL'; (try k_lt l1); (try k_sweep)) | (k_here; (with_reducible show wpAny _ _ (compareOp CmpOp.Eq (Value.ref _) (Value.ref _)) _ _ _); (with_unfolding_all refine' eq_ints_same (by is_list) (by l_ints) (by is_list) (by l_ints) (by exact units_fit (by assumption)) (by first | exact (sl_part _ _ _).symm | exact sl_part_of (by assumption) _ _) ?_; k_whole)) | (k_here; (with_reducible show wpAny _ _ (subscriptTail _ (PySem.Expr.Slice (some _) (some _) none _) (Value.ref _) (Value.ref _)) _ _ _); k_dflt (refine' kmk_slice_ints (by k_asm) (by k_asm) (by kmk_list) (by kmk_part) (by kmk_part) (by l_ints) (by exact kmk_run (by l_ints) (by omega) (by omega)) (by exact rfl) ?_ (by with_unfolding_all rfl) (by kmk_pure) (by exact kmk_sz (by l_ints) (by rw [sizeLine_eq]; omega))); intro D' ws' h' F' N' l1 hI' hC' hL'; clear hC' hL'; (try k_lt l1); (try k_sweep)) | (k_here; (with_reducible show wpAny _ _ (compareOp CmpOp.NotEq (Value.ref _) (Value.ref _)) _ _ _); (with_unfolding_all refine' ne_ints_same (by is_list) (by l_ints) (by is_list) (by l_ints) (by exact units_fit (by assumption)) (by first | exact (sl_part _ _ _).symm | exact sl_part_of (by assumption) _ _) ?_; k_whole)) | (k_here; (with_reducible show wpAny _ _ (call (Value.ref 281) _) _ _ _); k_dflt (refine' buf_codes_c (by k_asm) (by k_asm) (by k_asm) (by k_asm) (by first | exact rfl | assumption) (by ktr_room) (by ktr_room) (by k_asm) (by k_mem) (by k_mem) (by k_mem) (by k_mem) (by k_mem) (by l_ints) (by omega) (by omega) (by omega) (by omega) (by omega) (by omega) (by omega) ?_; k_whole); intro D' ws' h' tk' F' N' l1 hI'; (try simp only [AllLt, and_true] at l1); (try dsimp only); (try k_sweep)) | (k_here; (with_reducible show wpAny _ _ (call (Value.ref 274) _) _ _ _); k_dflt (refine' buf_code_c (by k_asm) (by k_asm) (by k_asm) (by k_asm) (by first | exact rfl | assumption) (by ktr_room) (by ktr_room) (by k_asm) (by k_mem) (by k_mem) (by k_mem) (by k_mem) (by k_mem) (by l_ints) (by omega) (by omega) (by omega) (by omega) (by omega) (by omega) ?_; k_whole); intro t' h' tk' F' N'; (try dsimp only); (try k_sweep)) | (k_here; (with_reducible show wpAny _ _ (call (Value.ref 267) _) _ _ _); k_dflt (refine' buf_size_c (by k_asm) (by k_asm) (by k_asm) (by k_asm) (by first | exact rfl | assumption) (by ktr_room) (by ktr_room) (by k_asm) (by k_mem) (by k_mem) (by k_mem) (by k_mem) (by k_mem) (by l_ints) (by omega) (by omega) (by omega) (by omega) ?_; k_whole); intro t' h' tk' F' N'; (try dsimp only); (try k_sweep)) | (k_here; (with_reducible show wpAny _ _ (call (Value.ref 302) _) _ _ _); k_dflt (refine' buf_mod_c (by k_asm) (by k_asm) (by k_asm) (by k_asm) (by first | exact rfl | assumption) (by ktr_room) (by k_asm) (by k_mem) (by k_mem) ?_; k_whole); intro h' tk' F' N'; (try dsimp only); (try k_sweep)) | (k_here; (with_reducible show wpAny _ _ (call (Value.ref 295) _) _ _ _); k_dflt (refine' buf_tick_c (by k_asm) (by k_asm) (by k_asm) (by k_asm) (by first | exact rfl | assumption) (by ktr_room) (by k_asm) (by k_mem) (by k_mem) ?_; k_whole); intro h' tk' F' N'; (try dsimp only); (try k_sweep)) | (k_here; (with_reducible show wpAny _ _ (call (Value.ref 260) _) _ _ _); k_dflt (refine' buf_end_c (by k_asm) (by k_asm) (by k_asm) (by k_asm) (by first | exact rfl | assumption) (by ktr_room) (by k_asm) (by k_mem) (by k_mem) ?_; k_whole); intro h' tk' F' N'; (try dsimp only); (try k_sweep)) | (k_here; (with_reducible show wpAny _ _ (call (Value.ref 253) _) _ _ _); k_dflt (refine' buf_begin_c (by k_asm) (by k_asm) (by k_asm) (by k_asm) (by first | exact rfl | assumption) (by ktr_room) (by k_asm) (by k_mem) (by k_mem) ?_; k_whole); intro h' tk' F' N'; (try dsimp only); (try k_sweep)) | (k_here; (with_reducible show wpAny _ _ (setItem (Value.ref _) (Value.ref _) (Value.ref _)) _ _ _); k_dflt (refine' setSlice_K (by k_asm) (by k_asm) (by k_updF) (by kmk_list) (by k_ne) (by l_ints) (by l_ints) (by omega) (by omega) (by omega) (by (simp only [sizeLine_eq]; omega)) ?_; k_whole); intro h' vs' n' F' N' hI'; (try dsimp only at N'); (try k_sweep)) | walk1)
    all_goals first
      | (rename ((bne (α := Bool) _ _) = true) => hh; exact absurd hh (by simp))
      | (refine' turn_end (by assumption) (by assumption) (by exact rfl) (by exact rfl) (by exact rfl) (by exact rfl) (by ktr_rel) (by ktr_rel) (by assumption) (by first | exact Or.inr rfl | exact Or.inl (And.right (by assumption))) (by omega) (by first | assumption | (show @Ne Nat _ _; omega)) (by l_ints) (by l_ints) (by assumption) (by omega) (by omega) (by omega) (by omega) (by omega) (by omega) (by omega) (by omega) (by omega) (by omega) (by omega))
  · intro m₁ news₁ h tk _ F₁ N₁
    exact hdone h tk m₁ F₁ (fun p hp => nomatch hp)
end
end
section
section
variable {prog : Program} {w : World} {p : Program} {loose : List Str} {mean : ExcName → Option Value} {mg mb : Str → Option Value}
variable {dp un : Nat} {gd : Option (List Code)} {a : Addr} {ccd : Value} {outer : List Env} {A₀ : Around} {base h₀ : Heap} {L : Addr} {m : Str → Option Value} {s : Shared} {Q : Flow → Shared → Prop} {E : Value → Shared → Prop}
theorem txt_nil {ns : List Int} {ge : Int} (h : ge = ns.length) : [] = txt ns 0 ge := by
  simp [txt, h]
theorem loop_start (B : Below A₀ base outer h₀) (F : Fr h₀ L s.heap m) (X : (KK w.params).In h₀) (T : Top p loose mean mg mb h₀) (hdp : dp + 100 < recursionLimit) (hun : un + 150 < cLine)
    {cs : Scope} {body : List Stmt} {dk d0 bf bx g gx cx ct rw' : Addr} {nd n0 nc n nr : Nat} {ds vs : List Value} {dns ns : List Int} {room c ge : Int} {tr tcc ts te q0 q1 : Tok} {all : List (Addr × Obj)} {r : Addr} {b₀ : Int} {t₀ u₀ v₀ : Tok}
    {b0 b1 b2 b3 b4 b5 b6 b7 b8 b9 b10 b11 b12 b13 b14 b15 b16 b17 b18 b19 g0 g1 g2 g3 y4 y5 y6 y10 y11 y12 : Tok} {v0 v1 v2 v3 v4 v5 v6 v7 v8 v9 v10 v11 v12 : Value}
    (hcs : cs = lawScope) (hbody : body = turnBody)
    (N : News h₀ L s.heap all)
    (e1 : m "deck" = some (.ref dk)) (e2 : m "buffer" = some (.ref bf)) (e3 : m "row" = some (.ref rw')) (e4 : m "counts" = some (.ref ct))
    (m1 : (dk, listOf #[.ref d0, .int c tcc] nd) ∈ all) (m2 : (d0, listOf ds.toArray n0) ∈ all) (m3 : (bf, instObj 319 bx) ∈ all)
    (m4 : (bx, dictOf [⟨PyData.keyHash w.params "number", .str "number" b0, v0⟩, ⟨PyData.keyHash w.params "name", .str "name" b1, v1⟩, ⟨PyData.keyHash w.params "text", .str "text" b2, .ref g⟩, ⟨PyData.keyHash w.params "markers", .str "markers" b3, v2⟩, ⟨PyData.keyHash w.params "point", .str "point" b4, .int 1 y4⟩, ⟨PyData.keyHash w.params "begv", .str "begv" b5, .int 1 y5⟩, ⟨PyData.keyHash w.params "zv", .str "zv" b6, .int 1 y6⟩, ⟨PyData.keyHash w.params "mark", .str "mark" b7, v3⟩, ⟨PyData.keyHash w.params "is_live", .str "is_live" b8, v4⟩, ⟨PyData.keyHash w.params "is_read_only", .str "is_read_only" b9, v5⟩, ⟨PyData.keyHash w.params "ticks", .str "ticks" b10, .int 1 y10⟩, ⟨PyData.keyHash w.params "codes_ticks", .str "codes_ticks" b11, .int 1 y11⟩, ⟨PyData.keyHash w.params "saved_ticks", .str "saved_ticks" b12, .int 1 y12⟩, ⟨PyData.keyHash w.params "listeners", .str "listeners" b13, v6⟩, ⟨PyData.keyHash w.params "undo", .str "undo" b14, v7⟩, ⟨PyData.keyHash w.params "props", .str "props" b15, v8⟩, ⟨PyData.keyHash w.params "overlays", .str "overlays" b16, v9⟩, ⟨PyData.keyHash w.params "locals", .str "locals" b17, v10⟩, ⟨PyData.keyHash w.params "syntax", .str "syntax" b18, v11⟩, ⟨PyData.keyHash w.params "file", .str "file" b19, v12⟩] 20) ∈ all)
    (m5 : (g, instObj 108 gx) ∈ all) (m6 : (gx, dictOf [⟨PyData.keyHash w.params "room", .str "room" g0, .int room tr⟩, ⟨PyData.keyHash w.params "cells", .str "cells" g1, .ref cx⟩, ⟨PyData.keyHash w.params "gap_start", .str "gap_start" g2, .int 0 ts⟩, ⟨PyData.keyHash w.params "gap_end", .str "gap_end" g3, .int ge te⟩] 4) ∈ all) (m7 : (cx, listOf vs.toArray n) ∈ all) (m8 : (rw', listOf (List.toArray []) nr) ∈ all) (m9 : (ct, listOf #[.int 1 q0, .int 1 q1] nc) ∈ all)
    (o1 : @LT.lt Nat _ d0 dk) (o2 : @LT.lt Nat _ dk bx) (o3 : @LT.lt Nat _ bx bf) (o4 : @LT.lt Nat _ bf gx) (o5 : @LT.lt Nat _ gx g) (o6 : @LT.lt Nat _ g cx) (o7 : @LT.lt Nat _ cx rw') (o8 : @LT.lt Nat _ rw' ct)
    (hD : IntsAre ds dns) (hlen : dns.length ≤ 100) (hpos : 0 < dns.length) (hd : ∀ x ∈ dns, 0 ≤ x ∧ x ≤ 2000000) (hr0 : 0 ≤ room) (hr1 : room ≤ 10)
    (hI : IntsAre vs ns) (hg : ge = ns.length) (hnl : ns.length ≤ 10) (hc0 : 0 ≤ c) (hc1 : c ≤ 10)
    (hr : IsRange s.heap r 0 b₀ 1 t₀ u₀ v₀) (hb0 : 0 ≤ b₀) (hb1 : b₀ ≤ 9)
    (hdone : ∀ h' tk' m', Fr h₀ L h' m' → News h₀ L h' [] → Q .next { s with heap := h', toks := tk' }) :
    wpAny (model prog w) (ktrTop dp un gd (PySem.Str.ofString "law") cs L a ccd [] outer) (pyIter (.ref r))
      (fun it s₂ => LoopAtV prog w (ktrTop dp un gd (PySem.Str.ofString "law") cs L a ccd [] outer) h₀ (envX (PySem.Str.ofString "law") cs L a ccd []) (PySem.Str.ofString "turn") body Q E it s₂) E s := by
  refine loop_c (kb := fun i => [b0, b1, b2, b3, b4, b5, b6, b7, b8, b9, b10, b11, b12, b13, b14, b15, b16, b17, b18, b19].getD i 0) (k := fun i => [g0, g1, g2, g3].getD i 0) (o := fun i => [v0, v1, v2, v3, v4, v5, v6, v7, v8, v9, v10, v11, v12].getD i .none) (nd := nd) (n0 := n0) (nc := nc) (tr := tr) (room := room) (bf := bf) (bx := bx) (g := g) (gx := gx) (dk := dk) (d0 := d0) (cx := cx) (ct := ct) (ds := ds)
    B F X T hdp hun hcs hbody (news_sub N (l' := [(dk, listOf #[.ref d0, .int c tcc] nd), (d0, listOf ds.toArray n0), (bf, instObj 319 bx), (bx, dictOf [⟨PyData.keyHash w.params "number", .str "number" b0, v0⟩, ⟨PyData.keyHash w.params "name", .str "name" b1, v1⟩, ⟨PyData.keyHash w.params "text", .str "text" b2, .ref g⟩, ⟨PyData.keyHash w.params "markers", .str "markers" b3, v2⟩, ⟨PyData.keyHash w.params "point", .str "point" b4, .int 1 y4⟩, ⟨PyData.keyHash w.params "begv", .str "begv" b5, .int 1 y5⟩, ⟨PyData.keyHash w.params "zv", .str "zv" b6, .int 1 y6⟩, ⟨PyData.keyHash w.params "mark", .str "mark" b7, v3⟩, ⟨PyData.keyHash w.params "is_live", .str "is_live" b8, v4⟩, ⟨PyData.keyHash w.params "is_read_only", .str "is_read_only" b9, v5⟩, ⟨PyData.keyHash w.params "ticks", .str "ticks" b10, .int 1 y10⟩, ⟨PyData.keyHash w.params "codes_ticks", .str "codes_ticks" b11, .int 1 y11⟩, ⟨PyData.keyHash w.params "saved_ticks", .str "saved_ticks" b12, .int 1 y12⟩, ⟨PyData.keyHash w.params "listeners", .str "listeners" b13, v6⟩, ⟨PyData.keyHash w.params "undo", .str "undo" b14, v7⟩, ⟨PyData.keyHash w.params "props", .str "props" b15, v8⟩, ⟨PyData.keyHash w.params "overlays", .str "overlays" b16, v9⟩, ⟨PyData.keyHash w.params "locals", .str "locals" b17, v10⟩, ⟨PyData.keyHash w.params "syntax", .str "syntax" b18, v11⟩, ⟨PyData.keyHash w.params "file", .str "file" b19, v12⟩] 20), (g, instObj 108 gx), (gx, dictOf [⟨PyData.keyHash w.params "room", .str "room" g0, .int room tr⟩, ⟨PyData.keyHash w.params "cells", .str "cells" g1, .ref cx⟩, ⟨PyData.keyHash w.params "gap_start", .str "gap_start" g2, .int 0 ts⟩, ⟨PyData.keyHash w.params "gap_end", .str "gap_end" g3, .int ge te⟩] 4), (cx, listOf vs.toArray n), (rw', listOf (List.toArray []) nr), (ct, listOf #[.int 1 q0, .int 1 q1] nc)]) ?_)
    ⟨c, 1, 1, 1, 1, 1, 1, 0, ge, tcc, y4, y5, y6, y10, y11, y12, ts, te, q0, q1, vs, [], ns, [], n, nr, rw', rfl, e1, e2, e3, e4, o7, Nat.ne_of_lt o8, hI, .nil, txt_nil hg, Nat.zero_le _, by omega, by omega, by omega, by omega, hc0, by omega, by omega, by omega, by simp, by omega⟩
    o1 o2 o3 o4 o5 o6 (Nat.lt_trans o7 o8) hD hlen hpos hd hr0 hr1 hr hb0 hb1 hdone
  intro p hp
  simp only [List.mem_cons, List.not_mem_nil, or_false] at hp
  rcases hp with rfl | rfl | rfl | rfl | rfl | rfl | rfl | rfl | rfl <;> assumption
end
end
section
theorem deck_bound {xns : List Int} (h : xns.length ≤ 63) : ∀ x ∈ (List.map (fun k' => (if k' < 0 then -k' else k').fmod 1000003) (List.take 40 xns) ++ [(xns.length : Int) + 5]), 0 ≤ x ∧ x ≤ 2000000 := by
  intro x hx
  rcases List.mem_append.mp hx with hx | hx
  · obtain ⟨y, _, rfl⟩ := List.mem_map.mp hx
    have h1 := Int.fmod_nonneg_of_pos (if y < 0 then -y else y) (show (0 : Int) < 1000003 by omega)
    have h2 := Int.fmod_lt_of_pos (if y < 0 then -y else y) (show (0 : Int) < 1000003 by omega)
    omega
  · rw [List.mem_singleton.mp hx]
    omega
theorem main1 : PySem.Challenge.rw_on0067_01.Holds := by
  w_on
  o_law
  refine holds_open (q := vw) (loose := lo) (Xt := fun s => xlAt vw [] s && recOk [] s) (XP := XL vw []) (Yf := (kHook KK KKas KKas_eq).obs) (Ya := (kHook KK KKas KKas_eq).val) (YP := (kHook KK KKas KKas_eq).says) (N := 4514) left1 (kHook KK KKas KKas_eq).of (kHook KK KKas KKas_eq).keeps (fun s e => xl_of s (Bool.and_eq_true_iff.mp e).1) XL.keeps (by rfl) (by rfl) (by rfl) (fun s e => recFacts_of (Bool.and_eq_true_iff.mp e).2) (by rfl) (by first | assumption | decide +kernel) (by decide +kernel) ⟨rfl, rfl, rfl, rfl, rfl, by decide +kernel⟩ ?hw ?hc
  case hw => w_witness2
  case hc =>
    rename_i sd; clear sd
    k_go0
    (all_goals try k_fold)
    iterate 326 (first | (k_unfold; (try dsimp only)) | ((with_reducible show wpAny _ _ (pyIter (Value.ref _)) (fun it s₂ => LoopAtV _ _ _ _ _ _ _ _ _ it s₂) _ _); k_dflt (refine' loop_start (by k_asm) (by k_asm) (by k_asm) (by k_asm) (by first | decide | ktr_room) (by decide) (by exact rfl) (by exact rfl) (by k_asm) (by exact rfl) (by exact rfl) (by exact rfl) (by exact rfl) (by k_memK) (by k_memK) (by k_memK) (by k_memK) (by k_memK) (by k_memK) (by k_memK) (by k_memK) (by k_memK) (by omega) (by omega) (by omega) (by omega) (by omega) (by omega) (by omega) (by omega) (by l_ints) (by (simp only [List.length_append, List.length_map, List.length_take, List.length_cons, List.length_nil]; omega)) (by (simp only [List.length_append, List.length_map, List.length_take, List.length_cons, List.length_nil]; omega)) (by exact deck_bound (by omega)) (by omega) (by omega) (by l_ints) (by (simp; omega)) (by (simp; omega)) (by omega) (by omega) (by assumption) (by omega) (by omega) ?_); intro h' tk' m' F' N'; (try dsimp only)) | (k_here; (with_reducible show wpAny _ _ (call (Value.ref 333) _) _ _ _); k_dflt (refine' draw_c (by k_asm) (by k_asm) (by k_asm) (by k_asm) (by first | exact rfl | assumption) (by ktr_room) (news_sel2 (by k_asm) (by tb_rel) (by tb_rel)) (by omega) (by tb_start) (by l_ints) (by first | omega | (simp only [List.length_append, List.length_map, List.length_take, List.length_cons, List.length_nil]; omega)) (by first | omega | (simp only [List.length_append, List.length_map, List.length_take, List.length_cons, List.length_nil]; omega)) (by first | assumption | exact deck_bound (by omega)) (by omega) (by omega) (by omega) (by omega) ?_; k_whole); intro h' tk' v' t' c' tc' F' N' hc' hv0' hv1'; (try dsimp only); (try k_sweep)) | (k_here; (with_reducible show wpAny _ _ (call (Value.ref 288) _) _ _ _); k_dflt (refine' buf_goto_c (by k_asm) (by k_asm) (by k_asm) (by k_asm) (by first | exact rfl | assumption) (by ktr_room) (news_sel2 (by k_asm) (by tb_rel) (by tb_rel)) (by omega) (by tb_start) ?_; k_whole); intro pt' t1' h' tk' F' N' hpt'; (try dsimp only); (try k_sweep)) | (k_here; (with_reducible show wpAny _ _ (call (Value.ref 316) _) _ _ _); k_dflt (refine' buf_touch_c (by k_asm) (by k_asm) (by k_asm) (by k_asm) (by first | exact rfl | assumption) (by ktr_room) (news_sel2 (by k_asm) (by tb_rel) (by tb_rel)) (by omega) (by tb_start) ?_; k_whole); intro tk2' ck2' t1' t2' h' tk' F' N' htk' hck'; (try dsimp only); (try k_sweep)) | (k_here; (with_reducible show wpAny _ _ (call (Value.ref 309) _) _ _ _); k_dflt (refine' buf_setmod_c (by k_asm) (by k_asm) (by k_asm) (by k_asm) (by first | exact rfl | assumption) (by ktr_room) (by ktr_room) (news_sel2 (by k_asm) (by tb_rel) (by tb_rel)) (by omega) (by tb_start) ?_; k_whole); intro tk2' sk2' t1' t2' h' tk' F' N' htk' hsk'; (try dsimp only); (try k_sweep)) | (k_here; (with_reducible show wpAny _ _ (call (Value.ref 333) _) _ _ _); k_dflt (refine' draw_c (by k_asm) (by k_asm) (by k_asm) (by k_asm) (by first | exact rfl | assumption) (by ktr_room) (news_sel2 (by k_asm) (by tb_rel) (by tb_rel)) (by omega) (by tb_start) (by l_ints) (by omega) (by omega) (by assumption) (by omega) (by omega) (by omega) (by omega) ?_; k_whole); intro h' tk' v' t' c' tc' F' N' hc' hv0' hv1'; (try dsimp only); (try k_sweep)) | (k_here; (with_reducible show wpAny _ _ (setItem (Value.ref _) (Value.ref _) (Value.ref _)) _ _ _); k_dflt (refine' setSlice_K (by k_asm) (by k_asm) (by k_updF) (by kmk_list) (by k_ne) (by l_ints) (by l_ints) (by omega) (by omega) (by omega) (by (simp only [sizeLine_eq]; omega)) ?_; k_whole); intro h' vs' n' F' N' hI'; (try dsimp only at N'); (try k_sweep)) | walk1)
    repeat' (first | (k_unfold; (try dsimp only)) | (k_end; wrow_close) | ((with_reducible show wpAny _ _ (pyIter (Value.ref _)) (fun it s₂ => LoopAtV _ _ _ _ _ _ _ _ _ it s₂) _ _); k_dflt (refine' loop_start (by k_asm) (by k_asm) (by k_asm) (by k_asm) (by first | decide | ktr_room) (by decide) (by exact rfl) (by exact rfl) (by k_asm) (by exact rfl) (by exact rfl) (by exact rfl) (by exact rfl) (by k_memK) (by k_memK) (by k_memK) (by k_memK) (by k_memK) (by k_memK) (by k_memK) (by k_memK) (by k_memK) (by omega) (by omega) (by omega) (by omega) (by omega) (by omega) (by omega) (by omega) (by l_ints) (by (simp only [List.length_append, List.length_map, List.length_take, List.length_cons, List.length_nil]; omega)) (by (simp only [List.length_append, List.length_map, List.length_take, List.length_cons, List.length_nil]; omega)) (by exact deck_bound (by omega)) (by omega) (by omega) (by l_ints) (by (simp; omega)) (by (simp; omega)) (by omega) (by omega) (by assumption) (by omega) (by omega) ?_); intro h' tk' m' F' N'; (try dsimp only)) | (k_here; (with_reducible show wpAny _ _ (call (Value.ref 333) _) _ _ _); k_dflt (refine' draw_c (by k_asm) (by k_asm) (by k_asm) (by k_asm) (by first | exact rfl | assumption) (by ktr_room) (news_sel2 (by k_asm) (by tb_rel) (by tb_rel)) (by omega) (by tb_start) (by l_ints) (by first | omega | (simp only [List.length_append, List.length_map, List.length_take, List.length_cons, List.length_nil]; omega)) (by first | omega | (simp only [List.length_append, List.length_map, List.length_take, List.length_cons, List.length_nil]; omega)) (by first | assumption | exact deck_bound (by omega)) (by omega) (by omega) (by omega) (by omega) ?_; k_whole); intro h' tk' v' t' c' tc' F' N' hc' hv0' hv1'; (try dsimp only); (try k_sweep)) | (k_here; (with_reducible show wpAny _ _ (call (Value.ref 288) _) _ _ _); k_dflt (refine' buf_goto_c (by k_asm) (by k_asm) (by k_asm) (by k_asm) (by first | exact rfl | assumption) (by ktr_room) (news_sel2 (by k_asm) (by tb_rel) (by tb_rel)) (by omega) (by tb_start) ?_; k_whole); intro pt' t1' h' tk' F' N' hpt'; (try dsimp only); (try k_sweep)) | (k_here; (with_reducible show wpAny _ _ (call (Value.ref 316) _) _ _ _); k_dflt (refine' buf_touch_c (by k_asm) (by k_asm) (by k_asm) (by k_asm) (by first | exact rfl | assumption) (by ktr_room) (news_sel2 (by k_asm) (by tb_rel) (by tb_rel)) (by omega) (by tb_start) ?_; k_whole); intro tk2' ck2' t1' t2' h' tk' F' N' htk' hck'; (try dsimp only); (try k_sweep)) | (k_here; (with_reducible show wpAny _ _ (call (Value.ref 309) _) _ _ _); k_dflt (refine' buf_setmod_c (by k_asm) (by k_asm) (by k_asm) (by k_asm) (by first | exact rfl | assumption) (by ktr_room) (by ktr_room) (news_sel2 (by k_asm) (by tb_rel) (by tb_rel)) (by omega) (by tb_start) ?_; k_whole); intro tk2' sk2' t1' t2' h' tk' F' N' htk' hsk'; (try dsimp only); (try k_sweep)) | (k_here; (with_reducible show wpAny _ _ (call (Value.ref 333) _) _ _ _); k_dflt (refine' draw_c (by k_asm) (by k_asm) (by k_asm) (by k_asm) (by first | exact rfl | assumption) (by ktr_room) (news_sel2 (by k_asm) (by tb_rel) (by tb_rel)) (by omega) (by tb_start) (by l_ints) (by omega) (by omega) (by assumption) (by omega) (by omega) (by omega) (by omega) ?_; k_whole); intro h' tk' v' t' c' tc' F' N' hc' hv0' hv1'; (try dsimp only); (try k_sweep)) | (k_here; (with_reducible show wpAny _ _ (setItem (Value.ref _) (Value.ref _) (Value.ref _)) _ _ _); k_dflt (refine' setSlice_K (by k_asm) (by k_asm) (by k_updF) (by kmk_list) (by k_ne) (by l_ints) (by l_ints) (by omega) (by omega) (by omega) (by (simp only [sizeLine_eq]; omega)) ?_; k_whole); intro h' vs' n' F' N' hI'; (try dsimp only at N'); (try k_sweep)) | walk1 | (dsimp only; first | ((with_reducible show wpAny _ _ (pyIter (Value.ref _)) (fun it s₂ => LoopAtV _ _ _ _ _ _ _ _ _ it s₂) _ _); k_dflt (refine' loop_start (by k_asm) (by k_asm) (by k_asm) (by k_asm) (by first | decide | ktr_room) (by decide) (by exact rfl) (by exact rfl) (by k_asm) (by exact rfl) (by exact rfl) (by exact rfl) (by exact rfl) (by k_memK) (by k_memK) (by k_memK) (by k_memK) (by k_memK) (by k_memK) (by k_memK) (by k_memK) (by k_memK) (by omega) (by omega) (by omega) (by omega) (by omega) (by omega) (by omega) (by omega) (by l_ints) (by (simp only [List.length_append, List.length_map, List.length_take, List.length_cons, List.length_nil]; omega)) (by (simp only [List.length_append, List.length_map, List.length_take, List.length_cons, List.length_nil]; omega)) (by exact deck_bound (by omega)) (by omega) (by omega) (by l_ints) (by (simp; omega)) (by (simp; omega)) (by omega) (by omega) (by assumption) (by omega) (by omega) ?_); intro h' tk' m' F' N'; (try dsimp only)) | (k_here; (with_reducible show wpAny _ _ (call (Value.ref 333) _) _ _ _); k_dflt (refine' draw_c (by k_asm) (by k_asm) (by k_asm) (by k_asm) (by first | exact rfl | assumption) (by ktr_room) (news_sel2 (by k_asm) (by tb_rel) (by tb_rel)) (by omega) (by tb_start) (by l_ints) (by first | omega | (simp only [List.length_append, List.length_map, List.length_take, List.length_cons, List.length_nil]; omega)) (by first | omega | (simp only [List.length_append, List.length_map, List.length_take, List.length_cons, List.length_nil]; omega)) (by first | assumption | exact deck_bound (by omega)) (by omega) (by omega) (by omega) (by omega) ?_; k_whole); intro h' tk' v' t' c' tc' F' N' hc' hv0' hv1'; (try dsimp only); (try k_sweep)) | (k_here; (with_reducible show wpAny _ _ (call (Value.ref 288) _) _ _ _); k_dflt (refine' buf_goto_c (by k_asm) (by k_asm) (by k_asm) (by k_asm) (by first | exact rfl | assumption) (by ktr_room) (news_sel2 (by k_asm) (by tb_rel) (by tb_rel)) (by omega) (by tb_start) ?_; k_whole); intro pt' t1' h' tk' F' N' hpt'; (try dsimp only); (try k_sweep)) | (k_here; (with_reducible show wpAny _ _ (call (Value.ref 316) _) _ _ _); k_dflt (refine' buf_touch_c (by k_asm) (by k_asm) (by k_asm) (by k_asm) (by first | exact rfl | assumption) (by ktr_room) (news_sel2 (by k_asm) (by tb_rel) (by tb_rel)) (by omega) (by tb_start) ?_; k_whole); intro tk2' ck2' t1' t2' h' tk' F' N' htk' hck'; (try dsimp only); (try k_sweep)) | (k_here; (with_reducible show wpAny _ _ (call (Value.ref 309) _) _ _ _); k_dflt (refine' buf_setmod_c (by k_asm) (by k_asm) (by k_asm) (by k_asm) (by first | exact rfl | assumption) (by ktr_room) (by ktr_room) (news_sel2 (by k_asm) (by tb_rel) (by tb_rel)) (by omega) (by tb_start) ?_; k_whole); intro tk2' sk2' t1' t2' h' tk' F' N' htk' hsk'; (try dsimp only); (try k_sweep)) | (k_here; (with_reducible show wpAny _ _ (call (Value.ref 333) _) _ _ _); k_dflt (refine' draw_c (by k_asm) (by k_asm) (by k_asm) (by k_asm) (by first | exact rfl | assumption) (by ktr_room) (news_sel2 (by k_asm) (by tb_rel) (by tb_rel)) (by omega) (by tb_start) (by l_ints) (by omega) (by omega) (by assumption) (by omega) (by omega) (by omega) (by omega) ?_; k_whole); intro h' tk' v' t' c' tc' F' N' hc' hv0' hv1'; (try dsimp only); (try k_sweep)) | (k_here; (with_reducible show wpAny _ _ (setItem (Value.ref _) (Value.ref _) (Value.ref _)) _ _ _); k_dflt (refine' setSlice_K (by k_asm) (by k_asm) (by k_updF) (by kmk_list) (by k_ne) (by l_ints) (by l_ints) (by omega) (by omega) (by omega) (by (simp only [sizeLine_eq]; omega)) ?_; k_whole); intro h' vs' n' F' N' hI'; (try dsimp only at N'); (try k_sweep)) | walk1) | (leave1; walk_say "STEP leave1"; try dsimp only) | fail "no step")
end
end Mine
theorem PySem.Challenge.cw_on0067_01_holds : PySem.Challenge.rw_on0067_01.Holds := by
  exact Mine.main1

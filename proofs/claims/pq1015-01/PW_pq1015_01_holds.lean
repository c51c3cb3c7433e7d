import PyProof.Rows.All
import Wide.All
import OpenK.AllK
import Wide.FinOn
import PySem.Challenge.RW_pq1015_01
open PySem PySem.W PyProof.Rows PySem.Spec PySem.Calls
set_option Elab.async false
set_option maxRecDepth 100000
set_option maxHeartbeats 8000000
namespace Mine
/-- the text without the statements that bind __name__ -/
noncomputable def vw : Program := by
  refine' (?g : ∀ (c0 c1 c2 c3 c4 c5 c6 c7 c8 c9 c10 c11 c12 c13 c14 c15 c16 c17 c18 c19 c20 c21 c22 c23 c24 c25 c26 c27 c28 c29 c30 c31 c32 c33 c34 c35 c36 c37 : Stmt), c0 :: c1 :: c2 :: c3 :: c4 :: c5 :: c6 :: c7 :: c8 :: c9 :: c10 :: c11 :: c12 :: c13 :: c14 :: c15 :: c16 :: c17 :: c18 :: c19 :: c20 :: c21 :: c22 :: c23 :: c24 :: c25 :: c26 :: c27 :: c28 :: c29 :: c30 :: c31 :: c32 :: c33 :: c34 :: c35 :: c36 :: c37 :: [] = PySem.Challenge.pw_pq1015_01.main.body → Program) _ _ _ _ _ _ _ _ _ _ _ _ _ _ _ _ _ _ _ _ _ _ _ _ _ _ _ _ _ _ _ _ _ _ _ _ _ _ rfl
  exact fun c0 c1 c2 c3 c4 c5 c6 c7 c8 c9 c10 c11 c12 c13 c14 c15 c16 c17 c18 c19 c20 c21 c22 c23 c24 c25 c26 c27 c28 c29 c30 c31 c32 c33 c34 c35 c36 c37 _ => { PySem.Challenge.pw_pq1015_01 with main := { PySem.Challenge.pw_pq1015_01.main with body := c1 :: c2 :: c3 :: c4 :: c6 :: c7 :: c8 :: c9 :: c10 :: c11 :: c12 :: c13 :: c14 :: c15 :: c16 :: c17 :: c18 :: c19 :: c20 :: c21 :: c22 :: c23 :: c24 :: c25 :: c26 :: c27 :: c28 :: c29 :: c31 :: c32 :: c33 :: c34 :: c35 :: c36 :: c37 :: [] } }
/-- what the walk reads of the heap behind the top: the text's names, the class, the defs -/
noncomputable def hp : Params → Frag := by
  refine' (?g : ∀ (c0 : Stmt) (c1 : Stmt) (c2 : Stmt) (c3 : Stmt) (c4 : Stmt) (c5 : Stmt) (c6 : Stmt) (p105 : Arguments) (b105 : List Stmt) (s105 : Scope) (q105 q108 : Pos) (s108 : Scope) (t108 : List Str) (p119 : Arguments) (b119 : List Stmt) (s119 : Scope) (q119 : Pos) (p126 : Arguments) (b126 : List Stmt) (s126 : Scope) (q126 : Pos) (p133 : Arguments) (b133 : List Stmt) (s133 : Scope) (q133 : Pos) (p140 : Arguments) (b140 : List Stmt) (s140 : Scope) (q140 : Pos) (p147 : Arguments) (b147 : List Stmt) (s147 : Scope) (q147 : Pos) (p154 : Arguments) (b154 : List Stmt) (s154 : Scope) (q154 : Pos) (p161 : Arguments) (b161 : List Stmt) (s161 : Scope) (q161 : Pos) (p168 : Arguments) (b168 : List Stmt) (s168 : Scope) (q168 : Pos) (p175 : Arguments) (b175 : List Stmt) (s175 : Scope) (q175 : Pos) (p182 : Arguments) (b182 : List Stmt) (s182 : Scope) (q182 : Pos) (p189 : Arguments) (b189 : List Stmt) (s189 : Scope) (q189 : Pos) (p196 : Arguments) (b196 : List Stmt) (s196 : Scope) (q196 : Pos) (p203 : Arguments) (b203 : List Stmt) (s203 : Scope) (q203 : Pos) (p210 : Arguments) (b210 : List Stmt) (s210 : Scope) (q210 : Pos) (p217 : Arguments) (b217 : List Stmt) (s217 : Scope) (q217 : Pos) (p224 : Arguments) (b224 : List Stmt) (s224 : Scope) (q224 : Pos) (p231 : Arguments) (b231 : List Stmt) (s231 : Scope) (q231 : Pos) (p238 : Arguments) (b238 : List Stmt) (s238 : Scope) (q238 : Pos) (p245 : Arguments) (b245 : List Stmt) (s245 : Scope) (q245 : Pos) (p252 : Arguments) (b252 : List Stmt) (s252 : Scope) (q252 : Pos) (p259 : Arguments) (b259 : List Stmt) (s259 : Scope) (q259 : Pos) (p266 : Arguments) (b266 : List Stmt) (s266 : Scope) (q266 : Pos) (c30 : Stmt) (p273 : Arguments) (b273 : List Stmt) (s273 : Scope) (q273 : Pos) (p280 : Arguments) (b280 : List Stmt) (s280 : Scope) (q280 : Pos) (p287 : Arguments) (b287 : List Stmt) (s287 : Scope) (q287 : Pos) (p292 : Arguments) (b292 : List Stmt) (s292 : Scope) (q292 : Pos) (p297 : Arguments) (b297 : List Stmt) (s297 : Scope) (q297 : Pos) (p304 : Arguments) (b304 : List Stmt) (s304 : Scope) (q304 : Pos) (p309 : Arguments) (b309 : List Stmt) (s309 : Scope) (q309 : Pos), c0 ::
    c1 ::
    c2 ::
    c3 ::
    c4 ::
    c5 ::
    c6 ::
    Stmt.ClassDef (Str.ofString "Real") [] [] [Stmt.FunctionDef (Str.ofString "__init__") p105 b105 [] none [] s105 none (Str.ofString "__init__") q105] [] [] s108 none (Str.ofString "Real") t108 q108 ::
    Stmt.FunctionDef (Str.ofString "size_of") p119 b119 [] none [] s119 none (Str.ofString "size_of") q119 ::
    Stmt.FunctionDef (Str.ofString "sign_of_whole") p126 b126 [] none [] s126 none (Str.ofString "sign_of_whole") q126 ::
    Stmt.FunctionDef (Str.ofString "zeros_below") p133 b133 [] none [] s133 none (Str.ofString "zeros_below") q133 ::
    Stmt.FunctionDef (Str.ofString "lean") p140 b140 [] none [] s140 none (Str.ofString "lean") q140 ::
    Stmt.FunctionDef (Str.ofString "nearest_shift") p147 b147 [] none [] s147 none (Str.ofString "nearest_shift") q147 ::
    Stmt.FunctionDef (Str.ofString "shifted_round") p154 b154 [] none [] s154 none (Str.ofString "shifted_round") q154 ::
    Stmt.FunctionDef (Str.ofString "with_sticky") p161 b161 [] none [] s161 none (Str.ofString "with_sticky") q161 ::
    Stmt.FunctionDef (Str.ofString "rounded") p168 b168 [] none [] s168 none (Str.ofString "rounded") q168 ::
    Stmt.FunctionDef (Str.ofString "place_of") p175 b175 [] none [] s175 none (Str.ofString "place_of") q175 ::
    Stmt.FunctionDef (Str.ofString "sign_of") p182 b182 [] none [] s182 none (Str.ofString "sign_of") q182 ::
    Stmt.FunctionDef (Str.ofString "negative") p189 b189 [] none [] s189 none (Str.ofString "negative") q189 ::
    Stmt.FunctionDef (Str.ofString "magnitude") p196 b196 [] none [] s196 none (Str.ofString "magnitude") q196 ::
    Stmt.FunctionDef (Str.ofString "same_real") p203 b203 [] none [] s203 none (Str.ofString "same_real") q203 ::
    Stmt.FunctionDef (Str.ofString "compare_magnitudes") p210 b210 [] none [] s210 none (Str.ofString "compare_magnitudes") q210 ::
    Stmt.FunctionDef (Str.ofString "compare_reals") p217 b217 [] none [] s217 none (Str.ofString "compare_reals") q217 ::
    Stmt.FunctionDef (Str.ofString "far_sum") p224 b224 [] none [] s224 none (Str.ofString "far_sum") q224 ::
    Stmt.FunctionDef (Str.ofString "add_reals") p231 b231 [] none [] s231 none (Str.ofString "add_reals") q231 ::
    Stmt.FunctionDef (Str.ofString "subtract_reals") p238 b238 [] none [] s238 none (Str.ofString "subtract_reals") q238 ::
    Stmt.FunctionDef (Str.ofString "multiply_reals") p245 b245 [] none [] s245 none (Str.ofString "multiply_reals") q245 ::
    Stmt.FunctionDef (Str.ofString "divide_reals") p252 b252 [] none [] s252 none (Str.ofString "divide_reals") q252 ::
    Stmt.FunctionDef (Str.ofString "root_below") p259 b259 [] none [] s259 none (Str.ofString "root_below") q259 ::
    Stmt.FunctionDef (Str.ofString "sqrt_real") p266 b266 [] none [] s266 none (Str.ofString "sqrt_real") q266 ::
    c30 ::
    Stmt.FunctionDef (Str.ofString "_law_drawn") p273 b273 [] none [] s273 none (Str.ofString "_law_drawn") q273 ::
    Stmt.FunctionDef (Str.ofString "_law_real") p280 b280 [] none [] s280 none (Str.ofString "_law_real") q280 ::
    Stmt.FunctionDef (Str.ofString "_law_at") p287 b287 [] none [] s287 none (Str.ofString "_law_at") q287 ::
    Stmt.FunctionDef (Str.ofString "_law_is_ordered") p292 b292 [] none [] s292 none (Str.ofString "_law_is_ordered") q292 ::
    Stmt.FunctionDef (Str.ofString "_law_is_even") p297 b297 [] none [] s297 none (Str.ofString "_law_is_even") q297 ::
    Stmt.FunctionDef (Str.ofString "_law_is_exact") p304 b304 [] none [] s304 none (Str.ofString "_law_is_exact") q304 ::
    Stmt.FunctionDef (Str.ofString "law") p309 b309 [] none [] s309 none (Str.ofString "law") q309 :: [] = PySem.Challenge.pw_pq1015_01.main.body → Params → Frag) _ _ _ _ _ _ _ _ _ _ _ _ _ _ _ _ _ _ _ _ _ _ _ _ _ _ _ _ _ _ _ _ _ _ _ _ _ _ _ _ _ _ _ _ _ _ _ _ _ _ _ _ _ _ _ _ _ _ _ _ _ _ _ _ _ _ _ _ _ _ _ _ _ _ _ _ _ _ _ _ _ _ _ _ _ _ _ _ _ _ _ _ _ _ _ _ _ _ _ _ _ _ _ _ _ _ _ _ _ _ _ _ _ _ _ _ _ _ _ _ _ _ _ _ _ _ _ _ _ _ _ rfl
  exact fun c0 c1 c2 c3 c4 c5 c6 p105 b105 s105 q105 q108 s108 t108 p119 b119 s119 q119 p126 b126 s126 q126 p133 b133 s133 q133 p140 b140 s140 q140 p147 b147 s147 q147 p154 b154 s154 q154 p161 b161 s161 q161 p168 b168 s168 q168 p175 b175 s175 q175 p182 b182 s182 q182 p189 b189 s189 q189 p196 b196 s196 q196 p203 b203 s203 q203 p210 b210 s210 q210 p217 b217 s217 q217 p224 b224 s224 q224 p231 b231 s231 q231 p238 b238 s238 q238 p245 b245 s245 q245 p252 b252 s252 q252 p259 b259 s259 q259 p266 b266 s266 q266 c30 p273 b273 s273 q273 p280 b280 s280 q280 p287 b287 s287 q287 p292 b292 s292 q292 p297 b297 s297 q297 p304 b304 s304 q304 p309 b309 s309 q309 _ => fun P => ((nat_lit 3 : Nat), { cls := Value.type "dict", data := Data.dict #[{ hash := PyData.keyHash P (Str.ofString "__name__"), key := Value.str (Str.ofString "__name__") 165, val := Value.str (Str.ofString "law_pq1015_01") 533 }, { hash := PyData.keyHash P (Str.ofString "__doc__"), key := Value.str (Str.ofString "__doc__") 166, val := Value.none }, { hash := PyData.keyHash P (Str.ofString "__package__"), key := Value.str (Str.ofString "__package__") 167, val := Value.none }, { hash := PyData.keyHash P (Str.ofString "__loader__"), key := Value.str (Str.ofString "__loader__") 168, val := Value.builtin "__main__.__loader__#opaque" }, { hash := PyData.keyHash P (Str.ofString "__spec__"), key := Value.str (Str.ofString "__spec__") 169, val := Value.none }, { hash := PyData.keyHash P (Str.ofString "__annotations__"), key := Value.str (Str.ofString "__annotations__") 170, val := Value.ref 6 }, { hash := PyData.keyHash P (Str.ofString "__builtins__"), key := Value.str (Str.ofString "__builtins__") 171, val := Value.ref 4 }, { hash := PyData.keyHash P (Str.ofString "__file__"), key := Value.str (Str.ofString "__file__") 173, val := Value.str (Str.ofString "/claim/cut.py") 172 }, { hash := PyData.keyHash P (Str.ofString "__cached__"), key := Value.str (Str.ofString "__cached__") 174, val := Value.none }, { hash := PyData.keyHash P (Str.ofString "SchemeError"), key := Value.str (Str.ofString "SchemeError") 219, val := Value.ref 31 }, { hash := PyData.keyHash P (Str.ofString "OutOfRange"), key := Value.str (Str.ofString "OutOfRange") 248, val := Value.ref 51 }, { hash := PyData.keyHash P (Str.ofString "DivisionByZero"), key := Value.str (Str.ofString "DivisionByZero") 273, val := Value.ref 70 }, { hash := PyData.keyHash P (Str.ofString "OutOfDomain"), key := Value.str (Str.ofString "OutOfDomain") 298, val := Value.ref 89 }, { hash := PyData.keyHash P (Str.ofString "REACH"), key := Value.str (Str.ofString "REACH") 304, val := Value.int 65536 303 }, { hash := PyData.keyHash P (Str.ofString "Real"), key := Value.str (Str.ofString "Real") 335, val := Value.ref 108 }, { hash := PyData.keyHash P (Str.ofString "size_of"), key := Value.str (Str.ofString "size_of") 342, val := Value.ref 119 }, { hash := PyData.keyHash P (Str.ofString "sign_of_whole"), key := Value.str (Str.ofString "sign_of_whole") 349, val := Value.ref 126 }, { hash := PyData.keyHash P (Str.ofString "zeros_below"), key := Value.str (Str.ofString "zeros_below") 356, val := Value.ref 133 }, { hash := PyData.keyHash P (Str.ofString "lean"), key := Value.str (Str.ofString "lean") 366, val := Value.ref 140 }, { hash := PyData.keyHash P (Str.ofString "nearest_shift"), key := Value.str (Str.ofString "nearest_shift") 377, val := Value.ref 147 }, { hash := PyData.keyHash P (Str.ofString "shifted_round"), key := Value.str (Str.ofString "shifted_round") 387, val := Value.ref 154 }, { hash := PyData.keyHash P (Str.ofString "with_sticky"), key := Value.str (Str.ofString "with_sticky") 395, val := Value.ref 161 }, { hash := PyData.keyHash P (Str.ofString "rounded"), key := Value.str (Str.ofString "rounded") 407, val := Value.ref 168 }, { hash := PyData.keyHash P (Str.ofString "place_of"), key := Value.str (Str.ofString "place_of") 414, val := Value.ref 175 }, { hash := PyData.keyHash P (Str.ofString "sign_of"), key := Value.str (Str.ofString "sign_of") 421, val := Value.ref 182 }, { hash := PyData.keyHash P (Str.ofString "negative"), key := Value.str (Str.ofString "negative") 428, val := Value.ref 189 }, { hash := PyData.keyHash P (Str.ofString "magnitude"), key := Value.str (Str.ofString "magnitude") 435, val := Value.ref 196 }, { hash := PyData.keyHash P (Str.ofString "same_real"), key := Value.str (Str.ofString "same_real") 443, val := Value.ref 203 }, { hash := PyData.keyHash P (Str.ofString "compare_magnitudes"), key := Value.str (Str.ofString "compare_magnitudes") 452, val := Value.ref 210 }, { hash := PyData.keyHash P (Str.ofString "compare_reals"), key := Value.str (Str.ofString "compare_reals") 460, val := Value.ref 217 }, { hash := PyData.keyHash P (Str.ofString "far_sum"), key := Value.str (Str.ofString "far_sum") 470, val := Value.ref 224 }, { hash := PyData.keyHash P (Str.ofString "add_reals"), key := Value.str (Str.ofString "add_reals") 484, val := Value.ref 231 }, { hash := PyData.keyHash P (Str.ofString "subtract_reals"), key := Value.str (Str.ofString "subtract_reals") 493, val := Value.ref 238 }, { hash := PyData.keyHash P (Str.ofString "multiply_reals"), key := Value.str (Str.ofString "multiply_reals") 502, val := Value.ref 245 }, { hash := PyData.keyHash P (Str.ofString "divide_reals"), key := Value.str (Str.ofString "divide_reals") 512, val := Value.ref 252 }, { hash := PyData.keyHash P (Str.ofString "root_below"), key := Value.str (Str.ofString "root_below") 521, val := Value.ref 259 }, { hash := PyData.keyHash P (Str.ofString "sqrt_real"), key := Value.str (Str.ofString "sqrt_real") 532, val := Value.ref 266 }, { hash := PyData.keyHash P (Str.ofString "_law_drawn"), key := Value.str (Str.ofString "_law_drawn") 542, val := Value.ref 273 }, { hash := PyData.keyHash P (Str.ofString "_law_real"), key := Value.str (Str.ofString "_law_real") 550, val := Value.ref 280 }, { hash := PyData.keyHash P (Str.ofString "_law_at"), key := Value.str (Str.ofString "_law_at") 558, val := Value.ref 287 }, { hash := PyData.keyHash P (Str.ofString "_law_is_ordered"), key := Value.str (Str.ofString "_law_is_ordered") 564, val := Value.ref 292 }, { hash := PyData.keyHash P (Str.ofString "_law_is_even"), key := Value.str (Str.ofString "_law_is_even") 570, val := Value.ref 297 }, { hash := PyData.keyHash P (Str.ofString "_law_is_exact"), key := Value.str (Str.ofString "_law_is_exact") 585, val := Value.ref 304 }, { hash := PyData.keyHash P (Str.ofString "law"), key := Value.str (Str.ofString "law") 591, val := Value.ref 309 }] 44 }) ::
    ((nat_lit 104 : Nat), { cls := Value.type "code", data := Data.fields #[Value.str (Str.ofString "__init__") 317, Value.str (Str.ofString "Real.__init__") 318, Value.str (Str.ofString "/claim/cut.py") 319, Value.int 28 0, Value.int 3 0, Value.int 0 0, Value.int 0 0, Value.int 3 0, Value.ref 99, Value.bool true, Value.int 181 0, Value.ref 100, Value.none, Value.ref 101, Value.ref 102, Value.ref 103, Value.int 323 0, Value.int 28 0, Value.str (Str.ofString "/claim/cut.py") 324] }) ::
    ((nat_lit 105 : Nat), { cls := Value.type "function", data := Data.func { name := Str.ofString "__init__", qualname := Str.ofString "Real.__init__", params := p105, body := FuncBody.stmts b105, scope := s105, globals := 3, closure := [], defaults := Value.none, kwdefaults := Value.none, pyModule := Value.str (Str.ofString "scheme.binary") 299, code := Value.ref 104 } }) ::
    ((nat_lit 107 : Nat), { cls := Value.type "dict", data := Data.dict #[{ hash := PyData.keyHash P (Str.ofString "__module__"), key := Value.str (Str.ofString "__module__") 312, val := Value.str (Str.ofString "scheme.binary") 299 }, { hash := PyData.keyHash P (Str.ofString "__firstlineno__"), key := Value.str (Str.ofString "__firstlineno__") 316, val := Value.int 26 315 }, { hash := PyData.keyHash P (Str.ofString "__init__"), key := Value.str (Str.ofString "__init__") 325, val := Value.ref 105 }, { hash := PyData.keyHash P (Str.ofString "__static_attributes__"), key := Value.str (Str.ofString "__static_attributes__") 328, val := Value.ref 106 }, { hash := PyData.keyHash P (Str.ofString "__dict__"), key := Value.str (Str.ofString "__dict__") 330, val := Value.ref 109 }, { hash := PyData.keyHash P (Str.ofString "__weakref__"), key := Value.str (Str.ofString "__weakref__") 332, val := Value.ref 110 }, { hash := PyData.keyHash P (Str.ofString "__doc__"), key := Value.str (Str.ofString "__doc__") 333, val := Value.none }] 4 }) ::
    ((nat_lit 108 : Nat), { cls := Value.type "type", data := Data.cls { name := Str.ofString "Real", bases := [Value.type "object"], mro := [Value.ref 108, Value.type "object"], ns := 107, qualname := Str.ofString "Real" }, slots := #[none, none, some (Value.str (Str.ofString "Real") 305), some (Value.str (Str.ofString "Real") 313), some (Value.builtin "object.__new__"), some (Value.bool true)] }) ::
    ((nat_lit 118 : Nat), { cls := Value.type "code", data := Data.fields #[Value.str (Str.ofString "size_of") 336, Value.str (Str.ofString "size_of") 337, Value.str (Str.ofString "/claim/cut.py") 338, Value.int 31 0, Value.int 1 0, Value.int 0 0, Value.int 0 0, Value.int 3 0, Value.ref 113, Value.bool true, Value.int 181 0, Value.ref 114, Value.none, Value.ref 115, Value.ref 116, Value.ref 117, Value.int 340 0, Value.int 31 0, Value.str (Str.ofString "/claim/cut.py") 341] }) ::
    ((nat_lit 119 : Nat), { cls := Value.type "function", data := Data.func { name := Str.ofString "size_of", qualname := Str.ofString "size_of", params := p119, body := FuncBody.stmts b119, scope := s119, globals := 3, closure := [], defaults := Value.none, kwdefaults := Value.none, pyModule := Value.str (Str.ofString "scheme.binary") 299, code := Value.ref 118 } }) ::
    ((nat_lit 125 : Nat), { cls := Value.type "code", data := Data.fields #[Value.str (Str.ofString "sign_of_whole") 343, Value.str (Str.ofString "sign_of_whole") 344, Value.str (Str.ofString "/claim/cut.py") 345, Value.int 33 0, Value.int 1 0, Value.int 0 0, Value.int 0 0, Value.int 3 0, Value.ref 120, Value.bool true, Value.int 181 0, Value.ref 121, Value.none, Value.ref 122, Value.ref 123, Value.ref 124, Value.int 347 0, Value.int 33 0, Value.str (Str.ofString "/claim/cut.py") 348] }) ::
    ((nat_lit 126 : Nat), { cls := Value.type "function", data := Data.func { name := Str.ofString "sign_of_whole", qualname := Str.ofString "sign_of_whole", params := p126, body := FuncBody.stmts b126, scope := s126, globals := 3, closure := [], defaults := Value.none, kwdefaults := Value.none, pyModule := Value.str (Str.ofString "scheme.binary") 299, code := Value.ref 125 } }) ::
    ((nat_lit 132 : Nat), { cls := Value.type "code", data := Data.fields #[Value.str (Str.ofString "zeros_below") 350, Value.str (Str.ofString "zeros_below") 351, Value.str (Str.ofString "/claim/cut.py") 352, Value.int 35 0, Value.int 1 0, Value.int 0 0, Value.int 0 0, Value.int 3 0, Value.ref 127, Value.bool true, Value.int 181 0, Value.ref 128, Value.none, Value.ref 129, Value.ref 130, Value.ref 131, Value.int 354 0, Value.int 35 0, Value.str (Str.ofString "/claim/cut.py") 355] }) ::
    ((nat_lit 133 : Nat), { cls := Value.type "function", data := Data.func { name := Str.ofString "zeros_below", qualname := Str.ofString "zeros_below", params := p133, body := FuncBody.stmts b133, scope := s133, globals := 3, closure := [], defaults := Value.none, kwdefaults := Value.none, pyModule := Value.str (Str.ofString "scheme.binary") 299, code := Value.ref 132 } }) ::
    ((nat_lit 139 : Nat), { cls := Value.type "code", data := Data.fields #[Value.str (Str.ofString "lean") 357, Value.str (Str.ofString "lean") 358, Value.str (Str.ofString "/claim/cut.py") 359, Value.int 37 0, Value.int 2 0, Value.int 0 0, Value.int 0 0, Value.int 3 0, Value.ref 134, Value.bool true, Value.int 181 0, Value.ref 135, Value.none, Value.ref 136, Value.ref 137, Value.ref 138, Value.int 364 0, Value.int 37 0, Value.str (Str.ofString "/claim/cut.py") 365] }) ::
    ((nat_lit 140 : Nat), { cls := Value.type "function", data := Data.func { name := Str.ofString "lean", qualname := Str.ofString "lean", params := p140, body := FuncBody.stmts b140, scope := s140, globals := 3, closure := [], defaults := Value.none, kwdefaults := Value.none, pyModule := Value.str (Str.ofString "scheme.binary") 299, code := Value.ref 139 } }) ::
    ((nat_lit 146 : Nat), { cls := Value.type "code", data := Data.fields #[Value.str (Str.ofString "nearest_shift") 367, Value.str (Str.ofString "nearest_shift") 368, Value.str (Str.ofString "/claim/cut.py") 369, Value.int 44 0, Value.int 2 0, Value.int 0 0, Value.int 0 0, Value.int 3 0, Value.ref 141, Value.bool true, Value.int 181 0, Value.ref 142, Value.none, Value.ref 143, Value.ref 144, Value.ref 145, Value.int 375 0, Value.int 44 0, Value.str (Str.ofString "/claim/cut.py") 376] }) ::
    ((nat_lit 147 : Nat), { cls := Value.type "function", data := Data.func { name := Str.ofString "nearest_shift", qualname := Str.ofString "nearest_shift", params := p147, body := FuncBody.stmts b147, scope := s147, globals := 3, closure := [], defaults := Value.none, kwdefaults := Value.none, pyModule := Value.str (Str.ofString "scheme.binary") 299, code := Value.ref 146 } }) ::
    ((nat_lit 153 : Nat), { cls := Value.type "code", data := Data.fields #[Value.str (Str.ofString "shifted_round") 378, Value.str (Str.ofString "shifted_round") 379, Value.str (Str.ofString "/claim/cut.py") 380, Value.int 49 0, Value.int 3 0, Value.int 0 0, Value.int 0 0, Value.int 3 0, Value.ref 148, Value.bool true, Value.int 181 0, Value.ref 149, Value.none, Value.ref 150, Value.ref 151, Value.ref 152, Value.int 385 0, Value.int 49 0, Value.str (Str.ofString "/claim/cut.py") 386] }) ::
    ((nat_lit 154 : Nat), { cls := Value.type "function", data := Data.func { name := Str.ofString "shifted_round", qualname := Str.ofString "shifted_round", params := p154, body := FuncBody.stmts b154, scope := s154, globals := 3, closure := [], defaults := Value.none, kwdefaults := Value.none, pyModule := Value.str (Str.ofString "scheme.binary") 299, code := Value.ref 153 } }) ::
    ((nat_lit 160 : Nat), { cls := Value.type "code", data := Data.fields #[Value.str (Str.ofString "with_sticky") 388, Value.str (Str.ofString "with_sticky") 389, Value.str (Str.ofString "/claim/cut.py") 390, Value.int 54 0, Value.int 2 0, Value.int 0 0, Value.int 0 0, Value.int 3 0, Value.ref 155, Value.bool true, Value.int 181 0, Value.ref 156, Value.none, Value.ref 157, Value.ref 158, Value.ref 159, Value.int 393 0, Value.int 54 0, Value.str (Str.ofString "/claim/cut.py") 394] }) ::
    ((nat_lit 161 : Nat), { cls := Value.type "function", data := Data.func { name := Str.ofString "with_sticky", qualname := Str.ofString "with_sticky", params := p161, body := FuncBody.stmts b161, scope := s161, globals := 3, closure := [], defaults := Value.none, kwdefaults := Value.none, pyModule := Value.str (Str.ofString "scheme.binary") 299, code := Value.ref 160 } }) ::
    ((nat_lit 167 : Nat), { cls := Value.type "code", data := Data.fields #[Value.str (Str.ofString "rounded") 396, Value.str (Str.ofString "rounded") 397, Value.str (Str.ofString "/claim/cut.py") 398, Value.int 56 0, Value.int 3 0, Value.int 0 0, Value.int 0 0, Value.int 3 0, Value.ref 162, Value.bool true, Value.int 181 0, Value.ref 163, Value.none, Value.ref 164, Value.ref 165, Value.ref 166, Value.int 405 0, Value.int 56 0, Value.str (Str.ofString "/claim/cut.py") 406] }) ::
    ((nat_lit 168 : Nat), { cls := Value.type "function", data := Data.func { name := Str.ofString "rounded", qualname := Str.ofString "rounded", params := p168, body := FuncBody.stmts b168, scope := s168, globals := 3, closure := [], defaults := Value.none, kwdefaults := Value.none, pyModule := Value.str (Str.ofString "scheme.binary") 299, code := Value.ref 167 } }) ::
    ((nat_lit 174 : Nat), { cls := Value.type "code", data := Data.fields #[Value.str (Str.ofString "place_of") 408, Value.str (Str.ofString "place_of") 409, Value.str (Str.ofString "/claim/cut.py") 410, Value.int 65 0, Value.int 1 0, Value.int 0 0, Value.int 0 0, Value.int 3 0, Value.ref 169, Value.bool true, Value.int 181 0, Value.ref 170, Value.none, Value.ref 171, Value.ref 172, Value.ref 173, Value.int 412 0, Value.int 65 0, Value.str (Str.ofString "/claim/cut.py") 413] }) ::
    ((nat_lit 175 : Nat), { cls := Value.type "function", data := Data.func { name := Str.ofString "place_of", qualname := Str.ofString "place_of", params := p175, body := FuncBody.stmts b175, scope := s175, globals := 3, closure := [], defaults := Value.none, kwdefaults := Value.none, pyModule := Value.str (Str.ofString "scheme.binary") 299, code := Value.ref 174 } }) ::
    ((nat_lit 181 : Nat), { cls := Value.type "code", data := Data.fields #[Value.str (Str.ofString "sign_of") 415, Value.str (Str.ofString "sign_of") 416, Value.str (Str.ofString "/claim/cut.py") 417, Value.int 67 0, Value.int 1 0, Value.int 0 0, Value.int 0 0, Value.int 3 0, Value.ref 176, Value.bool true, Value.int 181 0, Value.ref 177, Value.none, Value.ref 178, Value.ref 179, Value.ref 180, Value.int 419 0, Value.int 67 0, Value.str (Str.ofString "/claim/cut.py") 420] }) ::
    ((nat_lit 182 : Nat), { cls := Value.type "function", data := Data.func { name := Str.ofString "sign_of", qualname := Str.ofString "sign_of", params := p182, body := FuncBody.stmts b182, scope := s182, globals := 3, closure := [], defaults := Value.none, kwdefaults := Value.none, pyModule := Value.str (Str.ofString "scheme.binary") 299, code := Value.ref 181 } }) ::
    ((nat_lit 188 : Nat), { cls := Value.type "code", data := Data.fields #[Value.str (Str.ofString "negative") 422, Value.str (Str.ofString "negative") 423, Value.str (Str.ofString "/claim/cut.py") 424, Value.int 69 0, Value.int 1 0, Value.int 0 0, Value.int 0 0, Value.int 3 0, Value.ref 183, Value.bool true, Value.int 181 0, Value.ref 184, Value.none, Value.ref 185, Value.ref 186, Value.ref 187, Value.int 426 0, Value.int 69 0, Value.str (Str.ofString "/claim/cut.py") 427] }) ::
    ((nat_lit 189 : Nat), { cls := Value.type "function", data := Data.func { name := Str.ofString "negative", qualname := Str.ofString "negative", params := p189, body := FuncBody.stmts b189, scope := s189, globals := 3, closure := [], defaults := Value.none, kwdefaults := Value.none, pyModule := Value.str (Str.ofString "scheme.binary") 299, code := Value.ref 188 } }) ::
    ((nat_lit 195 : Nat), { cls := Value.type "code", data := Data.fields #[Value.str (Str.ofString "magnitude") 429, Value.str (Str.ofString "magnitude") 430, Value.str (Str.ofString "/claim/cut.py") 431, Value.int 71 0, Value.int 1 0, Value.int 0 0, Value.int 0 0, Value.int 3 0, Value.ref 190, Value.bool true, Value.int 181 0, Value.ref 191, Value.none, Value.ref 192, Value.ref 193, Value.ref 194, Value.int 433 0, Value.int 71 0, Value.str (Str.ofString "/claim/cut.py") 434] }) ::
    ((nat_lit 196 : Nat), { cls := Value.type "function", data := Data.func { name := Str.ofString "magnitude", qualname := Str.ofString "magnitude", params := p196, body := FuncBody.stmts b196, scope := s196, globals := 3, closure := [], defaults := Value.none, kwdefaults := Value.none, pyModule := Value.str (Str.ofString "scheme.binary") 299, code := Value.ref 195 } }) ::
    ((nat_lit 202 : Nat), { cls := Value.type "code", data := Data.fields #[Value.str (Str.ofString "same_real") 436, Value.str (Str.ofString "same_real") 437, Value.str (Str.ofString "/claim/cut.py") 438, Value.int 73 0, Value.int 2 0, Value.int 0 0, Value.int 0 0, Value.int 3 0, Value.ref 197, Value.bool true, Value.int 181 0, Value.ref 198, Value.none, Value.ref 199, Value.ref 200, Value.ref 201, Value.int 441 0, Value.int 73 0, Value.str (Str.ofString "/claim/cut.py") 442] }) ::
    ((nat_lit 203 : Nat), { cls := Value.type "function", data := Data.func { name := Str.ofString "same_real", qualname := Str.ofString "same_real", params := p203, body := FuncBody.stmts b203, scope := s203, globals := 3, closure := [], defaults := Value.none, kwdefaults := Value.none, pyModule := Value.str (Str.ofString "scheme.binary") 299, code := Value.ref 202 } }) ::
    ((nat_lit 209 : Nat), { cls := Value.type "code", data := Data.fields #[Value.str (Str.ofString "compare_magnitudes") 444, Value.str (Str.ofString "compare_magnitudes") 445, Value.str (Str.ofString "/claim/cut.py") 446, Value.int 75 0, Value.int 2 0, Value.int 0 0, Value.int 0 0, Value.int 3 0, Value.ref 204, Value.bool true, Value.int 181 0, Value.ref 205, Value.none, Value.ref 206, Value.ref 207, Value.ref 208, Value.int 450 0, Value.int 75 0, Value.str (Str.ofString "/claim/cut.py") 451] }) ::
    ((nat_lit 210 : Nat), { cls := Value.type "function", data := Data.func { name := Str.ofString "compare_magnitudes", qualname := Str.ofString "compare_magnitudes", params := p210, body := FuncBody.stmts b210, scope := s210, globals := 3, closure := [], defaults := Value.none, kwdefaults := Value.none, pyModule := Value.str (Str.ofString "scheme.binary") 299, code := Value.ref 209 } }) ::
    ((nat_lit 216 : Nat), { cls := Value.type "code", data := Data.fields #[Value.str (Str.ofString "compare_reals") 453, Value.str (Str.ofString "compare_reals") 454, Value.str (Str.ofString "/claim/cut.py") 455, Value.int 80 0, Value.int 2 0, Value.int 0 0, Value.int 0 0, Value.int 3 0, Value.ref 211, Value.bool true, Value.int 181 0, Value.ref 212, Value.none, Value.ref 213, Value.ref 214, Value.ref 215, Value.int 458 0, Value.int 80 0, Value.str (Str.ofString "/claim/cut.py") 459] }) ::
    ((nat_lit 217 : Nat), { cls := Value.type "function", data := Data.func { name := Str.ofString "compare_reals", qualname := Str.ofString "compare_reals", params := p217, body := FuncBody.stmts b217, scope := s217, globals := 3, closure := [], defaults := Value.none, kwdefaults := Value.none, pyModule := Value.str (Str.ofString "scheme.binary") 299, code := Value.ref 216 } }) ::
    ((nat_lit 223 : Nat), { cls := Value.type "code", data := Data.fields #[Value.str (Str.ofString "far_sum") 461, Value.str (Str.ofString "far_sum") 462, Value.str (Str.ofString "/claim/cut.py") 463, Value.int 86 0, Value.int 3 0, Value.int 0 0, Value.int 0 0, Value.int 3 0, Value.ref 218, Value.bool true, Value.int 181 0, Value.ref 219, Value.none, Value.ref 220, Value.ref 221, Value.ref 222, Value.int 468 0, Value.int 86 0, Value.str (Str.ofString "/claim/cut.py") 469] }) ::
    ((nat_lit 224 : Nat), { cls := Value.type "function", data := Data.func { name := Str.ofString "far_sum", qualname := Str.ofString "far_sum", params := p224, body := FuncBody.stmts b224, scope := s224, globals := 3, closure := [], defaults := Value.none, kwdefaults := Value.none, pyModule := Value.str (Str.ofString "scheme.binary") 299, code := Value.ref 223 } }) ::
    ((nat_lit 230 : Nat), { cls := Value.type "code", data := Data.fields #[Value.str (Str.ofString "add_reals") 471, Value.str (Str.ofString "add_reals") 472, Value.str (Str.ofString "/claim/cut.py") 473, Value.int 89 0, Value.int 3 0, Value.int 0 0, Value.int 0 0, Value.int 3 0, Value.ref 225, Value.bool true, Value.int 181 0, Value.ref 226, Value.none, Value.ref 227, Value.ref 228, Value.ref 229, Value.int 482 0, Value.int 89 0, Value.str (Str.ofString "/claim/cut.py") 483] }) ::
    ((nat_lit 231 : Nat), { cls := Value.type "function", data := Data.func { name := Str.ofString "add_reals", qualname := Str.ofString "add_reals", params := p231, body := FuncBody.stmts b231, scope := s231, globals := 3, closure := [], defaults := Value.none, kwdefaults := Value.none, pyModule := Value.str (Str.ofString "scheme.binary") 299, code := Value.ref 230 } }) ::
    ((nat_lit 237 : Nat), { cls := Value.type "code", data := Data.fields #[Value.str (Str.ofString "subtract_reals") 485, Value.str (Str.ofString "subtract_reals") 486, Value.str (Str.ofString "/claim/cut.py") 487, Value.int 99 0, Value.int 3 0, Value.int 0 0, Value.int 0 0, Value.int 3 0, Value.ref 232, Value.bool true, Value.int 181 0, Value.ref 233, Value.none, Value.ref 234, Value.ref 235, Value.ref 236, Value.int 491 0, Value.int 99 0, Value.str (Str.ofString "/claim/cut.py") 492] }) ::
    ((nat_lit 238 : Nat), { cls := Value.type "function", data := Data.func { name := Str.ofString "subtract_reals", qualname := Str.ofString "subtract_reals", params := p238, body := FuncBody.stmts b238, scope := s238, globals := 3, closure := [], defaults := Value.none, kwdefaults := Value.none, pyModule := Value.str (Str.ofString "scheme.binary") 299, code := Value.ref 237 } }) ::
    ((nat_lit 244 : Nat), { cls := Value.type "code", data := Data.fields #[Value.str (Str.ofString "multiply_reals") 494, Value.str (Str.ofString "multiply_reals") 495, Value.str (Str.ofString "/claim/cut.py") 496, Value.int 101 0, Value.int 3 0, Value.int 0 0, Value.int 0 0, Value.int 3 0, Value.ref 239, Value.bool true, Value.int 181 0, Value.ref 240, Value.none, Value.ref 241, Value.ref 242, Value.ref 243, Value.int 500 0, Value.int 101 0, Value.str (Str.ofString "/claim/cut.py") 501] }) ::
    ((nat_lit 245 : Nat), { cls := Value.type "function", data := Data.func { name := Str.ofString "multiply_reals", qualname := Str.ofString "multiply_reals", params := p245, body := FuncBody.stmts b245, scope := s245, globals := 3, closure := [], defaults := Value.none, kwdefaults := Value.none, pyModule := Value.str (Str.ofString "scheme.binary") 299, code := Value.ref 244 } }) ::
    ((nat_lit 251 : Nat), { cls := Value.type "code", data := Data.fields #[Value.str (Str.ofString "divide_reals") 503, Value.str (Str.ofString "divide_reals") 504, Value.str (Str.ofString "/claim/cut.py") 505, Value.int 103 0, Value.int 3 0, Value.int 0 0, Value.int 0 0, Value.int 3 0, Value.ref 246, Value.bool true, Value.int 181 0, Value.ref 247, Value.none, Value.ref 248, Value.ref 249, Value.ref 250, Value.int 510 0, Value.int 103 0, Value.str (Str.ofString "/claim/cut.py") 511] }) ::
    ((nat_lit 252 : Nat), { cls := Value.type "function", data := Data.func { name := Str.ofString "divide_reals", qualname := Str.ofString "divide_reals", params := p252, body := FuncBody.stmts b252, scope := s252, globals := 3, closure := [], defaults := Value.none, kwdefaults := Value.none, pyModule := Value.str (Str.ofString "scheme.binary") 299, code := Value.ref 251 } }) ::
    ((nat_lit 258 : Nat), { cls := Value.type "code", data := Data.fields #[Value.str (Str.ofString "root_below") 513, Value.str (Str.ofString "root_below") 514, Value.str (Str.ofString "/claim/cut.py") 515, Value.int 108 0, Value.int 1 0, Value.int 0 0, Value.int 0 0, Value.int 3 0, Value.ref 253, Value.bool true, Value.int 181 0, Value.ref 254, Value.none, Value.ref 255, Value.ref 256, Value.ref 257, Value.int 519 0, Value.int 108 0, Value.str (Str.ofString "/claim/cut.py") 520] }) ::
    ((nat_lit 259 : Nat), { cls := Value.type "function", data := Data.func { name := Str.ofString "root_below", qualname := Str.ofString "root_below", params := p259, body := FuncBody.stmts b259, scope := s259, globals := 3, closure := [], defaults := Value.none, kwdefaults := Value.none, pyModule := Value.str (Str.ofString "scheme.binary") 299, code := Value.ref 258 } }) ::
    ((nat_lit 265 : Nat), { cls := Value.type "code", data := Data.fields #[Value.str (Str.ofString "sqrt_real") 522, Value.str (Str.ofString "sqrt_real") 523, Value.str (Str.ofString "/claim/cut.py") 524, Value.int 117 0, Value.int 2 0, Value.int 0 0, Value.int 0 0, Value.int 3 0, Value.ref 260, Value.bool true, Value.int 181 0, Value.ref 261, Value.none, Value.ref 262, Value.ref 263, Value.ref 264, Value.int 530 0, Value.int 117 0, Value.str (Str.ofString "/claim/cut.py") 531] }) ::
    ((nat_lit 266 : Nat), { cls := Value.type "function", data := Data.func { name := Str.ofString "sqrt_real", qualname := Str.ofString "sqrt_real", params := p266, body := FuncBody.stmts b266, scope := s266, globals := 3, closure := [], defaults := Value.none, kwdefaults := Value.none, pyModule := Value.str (Str.ofString "scheme.binary") 299, code := Value.ref 265 } }) ::
    ((nat_lit 272 : Nat), { cls := Value.type "code", data := Data.fields #[Value.str (Str.ofString "_law_drawn") 535, Value.str (Str.ofString "_law_drawn") 536, Value.str (Str.ofString "/claim/cut.py") 537, Value.int 128 0, Value.int 2 0, Value.int 0 0, Value.int 0 0, Value.int 3 0, Value.ref 267, Value.bool true, Value.int 181 0, Value.ref 268, Value.none, Value.ref 269, Value.ref 270, Value.ref 271, Value.int 540 0, Value.int 128 0, Value.str (Str.ofString "/claim/cut.py") 541] }) ::
    ((nat_lit 273 : Nat), { cls := Value.type "function", data := Data.func { name := Str.ofString "_law_drawn", qualname := Str.ofString "_law_drawn", params := p273, body := FuncBody.stmts b273, scope := s273, globals := 3, closure := [], defaults := Value.none, kwdefaults := Value.none, pyModule := Value.str (Str.ofString "law_pq1015_01") 533, code := Value.ref 272 } }) ::
    ((nat_lit 279 : Nat), { cls := Value.type "code", data := Data.fields #[Value.str (Str.ofString "_law_real") 543, Value.str (Str.ofString "_law_real") 544, Value.str (Str.ofString "/claim/cut.py") 545, Value.int 133 0, Value.int 2 0, Value.int 0 0, Value.int 0 0, Value.int 3 0, Value.ref 274, Value.bool true, Value.int 181 0, Value.ref 275, Value.none, Value.ref 276, Value.ref 277, Value.ref 278, Value.int 548 0, Value.int 133 0, Value.str (Str.ofString "/claim/cut.py") 549] }) ::
    ((nat_lit 280 : Nat), { cls := Value.type "function", data := Data.func { name := Str.ofString "_law_real", qualname := Str.ofString "_law_real", params := p280, body := FuncBody.stmts b280, scope := s280, globals := 3, closure := [], defaults := Value.none, kwdefaults := Value.none, pyModule := Value.str (Str.ofString "law_pq1015_01") 533, code := Value.ref 279 } }) ::
    ((nat_lit 286 : Nat), { cls := Value.type "code", data := Data.fields #[Value.str (Str.ofString "_law_at") 551, Value.str (Str.ofString "_law_at") 552, Value.str (Str.ofString "/claim/cut.py") 553, Value.int 135 0, Value.int 2 0, Value.int 0 0, Value.int 0 0, Value.int 3 0, Value.ref 281, Value.bool true, Value.int 181 0, Value.ref 282, Value.none, Value.ref 283, Value.ref 284, Value.ref 285, Value.int 556 0, Value.int 135 0, Value.str (Str.ofString "/claim/cut.py") 557] }) ::
    ((nat_lit 287 : Nat), { cls := Value.type "function", data := Data.func { name := Str.ofString "_law_at", qualname := Str.ofString "_law_at", params := p287, body := FuncBody.stmts b287, scope := s287, globals := 3, closure := [], defaults := Value.none, kwdefaults := Value.none, pyModule := Value.str (Str.ofString "law_pq1015_01") 533, code := Value.ref 286 } }) ::
    ((nat_lit 291 : Nat), { cls := Value.type "code", data := Data.fields #[Value.str (Str.ofString "_law_is_ordered") 559, Value.str (Str.ofString "_law_is_ordered") 560, Value.str (Str.ofString "/claim/cut.py") 561, Value.int 137 0, Value.int 4 0, Value.int 0 0, Value.int 0 0, Value.int 3 0, Value.ref 288, Value.bool true, Value.int 181 0, Value.ref 289, Value.none, Value.none, Value.none, Value.ref 290, Value.int 562 0, Value.int 137 0, Value.str (Str.ofString "/claim/cut.py") 563] }) ::
    ((nat_lit 292 : Nat), { cls := Value.type "function", data := Data.func { name := Str.ofString "_law_is_ordered", qualname := Str.ofString "_law_is_ordered", params := p292, body := FuncBody.stmts b292, scope := s292, globals := 3, closure := [], defaults := Value.none, kwdefaults := Value.none, pyModule := Value.str (Str.ofString "law_pq1015_01") 533, code := Value.ref 291 } }) ::
    ((nat_lit 296 : Nat), { cls := Value.type "code", data := Data.fields #[Value.str (Str.ofString "_law_is_even") 565, Value.str (Str.ofString "_law_is_even") 566, Value.str (Str.ofString "/claim/cut.py") 567, Value.int 149 0, Value.int 3 0, Value.int 0 0, Value.int 0 0, Value.int 3 0, Value.ref 293, Value.bool true, Value.int 181 0, Value.ref 294, Value.none, Value.none, Value.none, Value.ref 295, Value.int 568 0, Value.int 149 0, Value.str (Str.ofString "/claim/cut.py") 569] }) ::
    ((nat_lit 297 : Nat), { cls := Value.type "function", data := Data.func { name := Str.ofString "_law_is_even", qualname := Str.ofString "_law_is_even", params := p297, body := FuncBody.stmts b297, scope := s297, globals := 3, closure := [], defaults := Value.none, kwdefaults := Value.none, pyModule := Value.str (Str.ofString "law_pq1015_01") 533, code := Value.ref 296 } }) ::
    ((nat_lit 303 : Nat), { cls := Value.type "code", data := Data.fields #[Value.str (Str.ofString "_law_is_exact") 571, Value.str (Str.ofString "_law_is_exact") 572, Value.str (Str.ofString "/claim/cut.py") 573, Value.int 163 0, Value.int 3 0, Value.int 0 0, Value.int 0 0, Value.int 3 0, Value.ref 298, Value.bool true, Value.int 181 0, Value.ref 299, Value.none, Value.ref 300, Value.ref 301, Value.ref 302, Value.int 583 0, Value.int 163 0, Value.str (Str.ofString "/claim/cut.py") 584] }) ::
    ((nat_lit 304 : Nat), { cls := Value.type "function", data := Data.func { name := Str.ofString "_law_is_exact", qualname := Str.ofString "_law_is_exact", params := p304, body := FuncBody.stmts b304, scope := s304, globals := 3, closure := [], defaults := Value.none, kwdefaults := Value.none, pyModule := Value.str (Str.ofString "law_pq1015_01") 533, code := Value.ref 303 } }) ::
    ((nat_lit 308 : Nat), { cls := Value.type "code", data := Data.fields #[Value.str (Str.ofString "law") 586, Value.str (Str.ofString "law") 587, Value.str (Str.ofString "/claim/cut.py") 588, Value.int 172 0, Value.int 1 0, Value.int 0 0, Value.int 0 0, Value.int 3 0, Value.ref 305, Value.bool true, Value.int 181 0, Value.ref 306, Value.none, Value.none, Value.none, Value.ref 307, Value.int 589 0, Value.int 172 0, Value.str (Str.ofString "/claim/cut.py") 590] }) ::
    ((nat_lit 309 : Nat), { cls := Value.type "function", data := Data.func { name := Str.ofString "law", qualname := Str.ofString "law", params := p309, body := FuncBody.stmts b309, scope := s309, globals := 3, closure := [], defaults := Value.none, kwdefaults := Value.none, pyModule := Value.str (Str.ofString "law_pq1015_01") 533, code := Value.ref 308 } }) :: []
abbrev ads : List Addr := [3, 104, 105, 107, 108, 118, 119, 125, 126, 132, 133, 139, 140, 146, 147, 153, 154, 160, 161, 167, 168, 174, 175, 181, 182, 188, 189, 195, 196, 202, 203, 209, 210, 216, 217, 223, 224, 230, 231, 237, 238, 244, 245, 251, 252, 258, 259, 265, 266, 272, 273, 279, 280, 286, 287, 291, 292, 296, 297, 303, 304, 308, 309]
theorem ads_ok : ∀ P, ads = (hp P).map (·.1) := fun P => by kernel_rfl
abbrev rO : OpenRow := PySem.Challenge.rw_pq1015_01.row
abbrev bE : List Stmt := behindTheImports rO.prog
noncomputable def fdOf : Stmt → Arguments × FuncBody × Scope
  | .FunctionDef _ a b _ _ _ s _ _ _ => (a, .stmts b, s)
  | _ => default
noncomputable def fdAt (j : Nat) : Arguments × FuncBody × Scope := fdOf (bE.getD j default)
noncomputable def mdAt (j i : Nat) : Arguments × FuncBody × Scope := match bE.getD j default with
  | .ClassDef _ _ _ b _ _ _ _ _ _ _ => fdOf (b.getD i default)
  | _ => default
noncomputable abbrev envE : Env := { scope := rO.prog.main.scope, locals := mainNs, globals := mainNs, cells := [], code := .ref 13, frame := some 14 }
noncomputable abbrev cE : Code := .body bE envE
abbrev p0 : Pos := { line := 0, col := 0, endLine := 0, endCol := 0 }
abbrev annE : Option Value := some (.ref 6)
noncomputable def ob11 (_ : Params) : Obj := { cls := Value.type "tuple", data := Data.seq #[] }
noncomputable def ob12 (_ : Params) : Obj := { cls := Value.none, data := Data.fields #[] }
noncomputable def ob13 (_ : Params) : Obj := { cls := Value.type "code", data := Data.fields #[Value.str (Str.ofString "<module>") 182, Value.str (Str.ofString "<module>") 183, Value.str (Str.ofString "/claim/cut.py") 184, Value.int 1 0, Value.int 0 0, Value.int 0 0, Value.int 0 0, Value.int 0 0, Value.ref 11, Value.bool Bool.false, Value.int 181 0, Value.ref 12, Value.none, Value.none, Value.none, Value.none, Value.int 185 0, Value.int 1 0, Value.str (Str.ofString "/claim/cut.py") 186] }
noncomputable def ob14 (_ : Params) : Obj := { cls := Value.type "frame", slots := #[Option.some (Value.ref 13), Option.some (Value.ref 3), Option.some (Value.ref 3), Option.none, Option.some (Value.str (Str.ofString "__main__") 164), Option.none, Option.some (Value.ref 0)] }
noncomputable def hPre (P : Params) : Heap := { objs := Array.mk [boot_o_0 P, boot_o_1 P, boot_o_2 P, boot_o_3 P, boot_o_4 P, boot_o_5 P, boot_o_6 P, boot_o_7 P, boot_o_8 P, boot_o_9 P, boot_o_10 P, ob11 P, ob12 P, ob13 P, ob14 P] }
noncomputable def hBlk (P : Params) : Heap := { objs := Array.mk [boot_o_0 P, boot_o_1 P, boot_o_2 P, boot_o_3 P, boot_o_4 P, boot_o_5 P, boot_o_6 P, boot_o_7 P, boot_o_8 P, boot_o_9 P, boot_o_10 P, ob11 P, ob12 P, ob13 P, ob14 P] }
noncomputable def ob2 (P : Params) : Obj := { cls := Value.none, data := Data.dict #[{ hash := PyData.keyHash P (Str.ofString "type.__subclasses__.Exception.0"), key := Value.str (Str.ofString "type.__subclasses__.Exception.0") 216, val := Value.int 31 0 }, { hash := PyData.keyHash P (Str.ofString "type.__subclasses__.Exception.n"), key := Value.str (Str.ofString "type.__subclasses__.Exception.n") 217, val := Value.int 1 0 }] 2 }
noncomputable def ob3 (P : Params) : Obj := { cls := Value.type "dict", data := Data.dict #[{ hash := PyData.keyHash P (Str.ofString "__name__"), key := Value.str (Str.ofString "__name__") 165, val := Value.str (Str.ofString "scheme.binary") 299 }, { hash := PyData.keyHash P (Str.ofString "__doc__"), key := Value.str (Str.ofString "__doc__") 166, val := Value.none }, { hash := PyData.keyHash P (Str.ofString "__package__"), key := Value.str (Str.ofString "__package__") 167, val := Value.none }, { hash := PyData.keyHash P (Str.ofString "__loader__"), key := Value.str (Str.ofString "__loader__") 168, val := Value.builtin "__main__.__loader__#opaque" }, { hash := PyData.keyHash P (Str.ofString "__spec__"), key := Value.str (Str.ofString "__spec__") 169, val := Value.none }, { hash := PyData.keyHash P (Str.ofString "__annotations__"), key := Value.str (Str.ofString "__annotations__") 170, val := Value.ref 6 }, { hash := PyData.keyHash P (Str.ofString "__builtins__"), key := Value.str (Str.ofString "__builtins__") 171, val := Value.ref 4 }, { hash := PyData.keyHash P (Str.ofString "__file__"), key := Value.str (Str.ofString "__file__") 173, val := Value.str (Str.ofString "/claim/cut.py") 172 }, { hash := PyData.keyHash P (Str.ofString "__cached__"), key := Value.str (Str.ofString "__cached__") 174, val := Value.none }, { hash := PyData.keyHash P (Str.ofString "SchemeError"), key := Value.str (Str.ofString "SchemeError") 219, val := Value.ref 31 }, { hash := PyData.keyHash P (Str.ofString "OutOfRange"), key := Value.str (Str.ofString "OutOfRange") 248, val := Value.ref 51 }, { hash := PyData.keyHash P (Str.ofString "DivisionByZero"), key := Value.str (Str.ofString "DivisionByZero") 273, val := Value.ref 70 }, { hash := PyData.keyHash P (Str.ofString "OutOfDomain"), key := Value.str (Str.ofString "OutOfDomain") 298, val := Value.ref 89 }, { hash := PyData.keyHash P (Str.ofString "REACH"), key := Value.str (Str.ofString "REACH") 304, val := Value.int 65536 303 }, { hash := PyData.keyHash P (Str.ofString "Real"), key := Value.str (Str.ofString "Real") 335, val := Value.ref 108 }] 15 }
noncomputable def ob12' (_ : Params) : Obj := { cls := Value.none, data := Data.fields #[Value.int 2 0, Value.int 0 0, Value.ref 20, Value.int 7 0, Value.int 0 0, Value.ref 40, Value.int 14 0, Value.int 0 0, Value.ref 59, Value.int 19 0, Value.int 0 0, Value.ref 78, Value.int 26 0, Value.int 0 0, Value.ref 97] }
noncomputable def ob15 (_ : Params) : Obj := { cls := Value.type "tuple", data := Data.seq #[Value.type "Exception"] }
noncomputable def ob16 (_ : Params) : Obj := { cls := Value.type "builtin_function_or_method", data := Data.fields #[Value.builtin "type.__prepare__", Value.type "type"] }
noncomputable def ob17 (P : Params) : Obj := { cls := Value.type "dict", data := Data.dict #[{ hash := PyData.keyHash P (Str.ofString "__module__"), key := Value.str (Str.ofString "__module__") 196, val := Value.str (Str.ofString "scheme.errors") 187 }, { hash := PyData.keyHash P (Str.ofString "__qualname__"), key := Value.str (Str.ofString "__qualname__") 198, val := Value.str (Str.ofString "SchemeError") 197 }, { hash := PyData.keyHash P (Str.ofString "__firstlineno__"), key := Value.str (Str.ofString "__firstlineno__") 200, val := Value.int 2 199 }, { hash := PyData.keyHash P (Str.ofString "__init__"), key := Value.str (Str.ofString "__init__") 209, val := Value.ref 28 }, { hash := PyData.keyHash P (Str.ofString "__static_attributes__"), key := Value.str (Str.ofString "__static_attributes__") 212, val := Value.ref 29 }] 5 }
noncomputable def ob18 (_ : Params) : Obj := { cls := Value.type "tuple", data := Data.seq #[] }
noncomputable def ob19 (_ : Params) : Obj := { cls := Value.none, data := Data.fields #[Value.int 4 0, Value.int 4 0, Value.ref 27] }
noncomputable def ob20 (_ : Params) : Obj := { cls := Value.type "code", data := Data.fields #[Value.str (Str.ofString "SchemeError") 191, Value.str (Str.ofString "SchemeError") 192, Value.str (Str.ofString "/claim/cut.py") 193, Value.int 2 0, Value.int 0 0, Value.int 0 0, Value.int 0 0, Value.int 0 0, Value.ref 18, Value.bool Bool.false, Value.int 181 0, Value.ref 19, Value.none, Value.none, Value.none, Value.none, Value.int 194 0, Value.int 2 0, Value.str (Str.ofString "/claim/cut.py") 195] }
noncomputable def ob21 (_ : Params) : Obj := { cls := Value.type "frame", slots := #[Option.some (Value.ref 20), Option.some (Value.ref 3), Option.some (Value.ref 17), Option.none, Option.some (Value.str (Str.ofString "scheme.errors") 187), Option.none, Option.some (Value.ref 0)] }
noncomputable def ob22 (_ : Params) : Obj := { cls := Value.type "tuple", data := Data.seq #[] }
noncomputable def ob23 (_ : Params) : Obj := { cls := Value.none, data := Data.fields #[] }
noncomputable def ob24 (_ : Params) : Obj := { cls := Value.type "tuple", data := Data.seq #[Value.str (Str.ofString "self") 204, Value.str (Str.ofString "word") 205, Value.str (Str.ofString "irritants") 206] }
noncomputable def ob25 (_ : Params) : Obj := { cls := Value.type "tuple", data := Data.seq #[] }
noncomputable def ob26 (_ : Params) : Obj := { cls := Value.none, data := Data.func { name := Str.ofString "__init__", qualname := Str.ofString "SchemeError.__init__", params := (mdAt 1 0).1, body := (mdAt 1 0).2.1, scope := (mdAt 1 0).2.2, globals := 0, closure := [], defaults := Value.none, kwdefaults := Value.none } }
noncomputable def ob27 (_ : Params) : Obj := { cls := Value.type "code", data := Data.fields #[Value.str (Str.ofString "__init__") 201, Value.str (Str.ofString "SchemeError.__init__") 202, Value.str (Str.ofString "/claim/cut.py") 203, Value.int 4 0, Value.int 3 0, Value.int 0 0, Value.int 0 0, Value.int 3 0, Value.ref 22, Value.bool Bool.true, Value.int 181 0, Value.ref 23, Value.none, Value.ref 24, Value.ref 25, Value.ref 26, Value.int 207 0, Value.int 4 0, Value.str (Str.ofString "/claim/cut.py") 208] }
noncomputable def ob28 (_ : Params) : Obj := { cls := Value.type "function", data := Data.func { name := Str.ofString "__init__", qualname := Str.ofString "SchemeError.__init__", params := (mdAt 1 0).1, body := (mdAt 1 0).2.1, scope := (mdAt 1 0).2.2, globals := 3, closure := [], defaults := Value.none, kwdefaults := Value.none, pyModule := Value.str (Str.ofString "scheme.errors") 187, code := Value.ref 27 } }
noncomputable def ob29 (_ : Params) : Obj := { cls := Value.type "tuple", data := Data.seq #[Value.str (Str.ofString "irritants") 210, Value.str (Str.ofString "word") 211] }
noncomputable def ob30 (P : Params) : Obj := { cls := Value.type "dict", data := Data.dict #[{ hash := PyData.keyHash P (Str.ofString "__module__"), key := Value.str (Str.ofString "__module__") 196, val := Value.str (Str.ofString "scheme.errors") 187 }, { hash := PyData.keyHash P (Str.ofString "__firstlineno__"), key := Value.str (Str.ofString "__firstlineno__") 200, val := Value.int 2 199 }, { hash := PyData.keyHash P (Str.ofString "__init__"), key := Value.str (Str.ofString "__init__") 209, val := Value.ref 28 }, { hash := PyData.keyHash P (Str.ofString "__static_attributes__"), key := Value.str (Str.ofString "__static_attributes__") 212, val := Value.ref 29 }, { hash := PyData.keyHash P (Str.ofString "__weakref__"), key := Value.str (Str.ofString "__weakref__") 214, val := Value.ref 32 }, { hash := PyData.keyHash P (Str.ofString "__doc__"), key := Value.str (Str.ofString "__doc__") 215, val := Value.none }] 3 }
noncomputable def ob31 (_ : Params) : Obj := { cls := Value.type "type", data := Data.cls { name := Str.ofString "SchemeError", bases := [Value.type "Exception"], mro := [Value.ref 31, Value.type "Exception", Value.type "BaseException", Value.type "object"], ns := 30, qualname := Str.ofString "SchemeError", subclasses := [Value.ref 51, Value.ref 70, Value.ref 89] }, slots := #[Option.some (Value.ref 15), Option.none, Option.some (Value.str (Str.ofString "SchemeError") 189), Option.some (Value.str (Str.ofString "SchemeError") 197), Option.some (Value.builtin "Exception.__new__"), Option.some (Value.bool Bool.true)] }
noncomputable def ob32 (_ : Params) : Obj := { cls := Value.type "getset_descriptor", data := Data.fields #[Value.str (Str.ofString "__weakref__") 213, Value.ref 31, Value.builtin "ExceptionGroup.__weakref__", Value.none] }
noncomputable def ob33 (_ : Params) : Obj := { cls := Value.type "super", data := Data.fields #[Value.ref 31, Value.ref 31, Value.ref 31] }
noncomputable def ob34 (_ : Params) : Obj := { cls := Value.type "builtin_function_or_method", data := Data.fields #[Value.builtin "object.__init_subclass__", Value.ref 31] }
noncomputable def ob35 (_ : Params) : Obj := { cls := Value.type "tuple", data := Data.seq #[Value.ref 31] }
noncomputable def ob36 (_ : Params) : Obj := { cls := Value.type "builtin_function_or_method", data := Data.fields #[Value.builtin "type.__prepare__", Value.type "type"] }
noncomputable def ob37 (P : Params) : Obj := { cls := Value.type "dict", data := Data.dict #[{ hash := PyData.keyHash P (Str.ofString "__module__"), key := Value.str (Str.ofString "__module__") 227, val := Value.str (Str.ofString "scheme.errors") 187 }, { hash := PyData.keyHash P (Str.ofString "__qualname__"), key := Value.str (Str.ofString "__qualname__") 229, val := Value.str (Str.ofString "OutOfRange") 228 }, { hash := PyData.keyHash P (Str.ofString "__firstlineno__"), key := Value.str (Str.ofString "__firstlineno__") 231, val := Value.int 7 230 }, { hash := PyData.keyHash P (Str.ofString "__init__"), key := Value.str (Str.ofString "__init__") 241, val := Value.ref 48 }, { hash := PyData.keyHash P (Str.ofString "__static_attributes__"), key := Value.str (Str.ofString "__static_attributes__") 245, val := Value.ref 49 }] 5 }
noncomputable def ob38 (_ : Params) : Obj := { cls := Value.type "tuple", data := Data.seq #[] }
noncomputable def ob39 (_ : Params) : Obj := { cls := Value.none, data := Data.fields #[Value.int 9 0, Value.int 4 0, Value.ref 47] }
noncomputable def ob40 (_ : Params) : Obj := { cls := Value.type "code", data := Data.fields #[Value.str (Str.ofString "OutOfRange") 222, Value.str (Str.ofString "OutOfRange") 223, Value.str (Str.ofString "/claim/cut.py") 224, Value.int 7 0, Value.int 0 0, Value.int 0 0, Value.int 0 0, Value.int 0 0, Value.ref 38, Value.bool Bool.false, Value.int 181 0, Value.ref 39, Value.none, Value.none, Value.none, Value.none, Value.int 225 0, Value.int 7 0, Value.str (Str.ofString "/claim/cut.py") 226] }
noncomputable def ob41 (_ : Params) : Obj := { cls := Value.type "frame", slots := #[Option.some (Value.ref 40), Option.some (Value.ref 3), Option.some (Value.ref 37), Option.none, Option.some (Value.str (Str.ofString "scheme.errors") 187), Option.none, Option.some (Value.ref 0)] }
noncomputable def ob42 (_ : Params) : Obj := { cls := Value.type "tuple", data := Data.seq #[] }
noncomputable def ob43 (_ : Params) : Obj := { cls := Value.none, data := Data.fields #[] }
noncomputable def ob44 (_ : Params) : Obj := { cls := Value.type "tuple", data := Data.seq #[Value.str (Str.ofString "self") 235, Value.str (Str.ofString "name") 236, Value.str (Str.ofString "place") 237, Value.str (Str.ofString "datum") 238] }
noncomputable def ob45 (_ : Params) : Obj := { cls := Value.type "tuple", data := Data.seq #[] }
noncomputable def ob46 (_ : Params) : Obj := { cls := Value.none, data := Data.func { name := Str.ofString "__init__", qualname := Str.ofString "OutOfRange.__init__", params := (mdAt 2 0).1, body := (mdAt 2 0).2.1, scope := (mdAt 2 0).2.2, globals := 0, closure := [], defaults := Value.none, kwdefaults := Value.none } }
noncomputable def ob47 (_ : Params) : Obj := { cls := Value.type "code", data := Data.fields #[Value.str (Str.ofString "__init__") 232, Value.str (Str.ofString "OutOfRange.__init__") 233, Value.str (Str.ofString "/claim/cut.py") 234, Value.int 9 0, Value.int 4 0, Value.int 0 0, Value.int 0 0, Value.int 3 0, Value.ref 42, Value.bool Bool.true, Value.int 181 0, Value.ref 43, Value.none, Value.ref 44, Value.ref 45, Value.ref 46, Value.int 239 0, Value.int 9 0, Value.str (Str.ofString "/claim/cut.py") 240] }
noncomputable def ob48 (_ : Params) : Obj := { cls := Value.type "function", data := Data.func { name := Str.ofString "__init__", qualname := Str.ofString "OutOfRange.__init__", params := (mdAt 2 0).1, body := (mdAt 2 0).2.1, scope := (mdAt 2 0).2.2, globals := 3, closure := [], defaults := Value.none, kwdefaults := Value.none, pyModule := Value.str (Str.ofString "scheme.errors") 187, code := Value.ref 47 } }
noncomputable def ob49 (_ : Params) : Obj := { cls := Value.type "tuple", data := Data.seq #[Value.str (Str.ofString "datum") 242, Value.str (Str.ofString "name") 243, Value.str (Str.ofString "place") 244] }
noncomputable def ob50 (P : Params) : Obj := { cls := Value.type "dict", data := Data.dict #[{ hash := PyData.keyHash P (Str.ofString "__module__"), key := Value.str (Str.ofString "__module__") 227, val := Value.str (Str.ofString "scheme.errors") 187 }, { hash := PyData.keyHash P (Str.ofString "__firstlineno__"), key := Value.str (Str.ofString "__firstlineno__") 231, val := Value.int 7 230 }, { hash := PyData.keyHash P (Str.ofString "__init__"), key := Value.str (Str.ofString "__init__") 241, val := Value.ref 48 }, { hash := PyData.keyHash P (Str.ofString "__static_attributes__"), key := Value.str (Str.ofString "__static_attributes__") 245, val := Value.ref 49 }, { hash := PyData.keyHash P (Str.ofString "__doc__"), key := Value.str (Str.ofString "__doc__") 246, val := Value.none }] 2 }
noncomputable def ob51 (_ : Params) : Obj := { cls := Value.type "type", data := Data.cls { name := Str.ofString "OutOfRange", bases := [Value.ref 31], mro := [Value.ref 51, Value.ref 31, Value.type "Exception", Value.type "BaseException", Value.type "object"], ns := 50, qualname := Str.ofString "OutOfRange" }, slots := #[Option.some (Value.ref 35), Option.none, Option.some (Value.str (Str.ofString "OutOfRange") 220), Option.some (Value.str (Str.ofString "OutOfRange") 228), Option.some (Value.builtin "Exception.__new__"), Option.some (Value.bool Bool.true)] }
noncomputable def ob52 (_ : Params) : Obj := { cls := Value.type "super", data := Data.fields #[Value.ref 51, Value.ref 51, Value.ref 51] }
noncomputable def ob53 (_ : Params) : Obj := { cls := Value.type "builtin_function_or_method", data := Data.fields #[Value.builtin "object.__init_subclass__", Value.ref 51] }
noncomputable def ob54 (_ : Params) : Obj := { cls := Value.type "tuple", data := Data.seq #[Value.ref 31] }
noncomputable def ob55 (_ : Params) : Obj := { cls := Value.type "builtin_function_or_method", data := Data.fields #[Value.builtin "type.__prepare__", Value.type "type"] }
noncomputable def ob56 (P : Params) : Obj := { cls := Value.type "dict", data := Data.dict #[{ hash := PyData.keyHash P (Str.ofString "__module__"), key := Value.str (Str.ofString "__module__") 256, val := Value.str (Str.ofString "scheme.errors") 187 }, { hash := PyData.keyHash P (Str.ofString "__qualname__"), key := Value.str (Str.ofString "__qualname__") 258, val := Value.str (Str.ofString "DivisionByZero") 257 }, { hash := PyData.keyHash P (Str.ofString "__firstlineno__"), key := Value.str (Str.ofString "__firstlineno__") 260, val := Value.int 14 259 }, { hash := PyData.keyHash P (Str.ofString "__init__"), key := Value.str (Str.ofString "__init__") 268, val := Value.ref 67 }, { hash := PyData.keyHash P (Str.ofString "__static_attributes__"), key := Value.str (Str.ofString "__static_attributes__") 270, val := Value.ref 68 }] 5 }
noncomputable def ob57 (_ : Params) : Obj := { cls := Value.type "tuple", data := Data.seq #[] }
noncomputable def ob58 (_ : Params) : Obj := { cls := Value.none, data := Data.fields #[Value.int 16 0, Value.int 4 0, Value.ref 66] }
noncomputable def ob59 (_ : Params) : Obj := { cls := Value.type "code", data := Data.fields #[Value.str (Str.ofString "DivisionByZero") 251, Value.str (Str.ofString "DivisionByZero") 252, Value.str (Str.ofString "/claim/cut.py") 253, Value.int 14 0, Value.int 0 0, Value.int 0 0, Value.int 0 0, Value.int 0 0, Value.ref 57, Value.bool Bool.false, Value.int 181 0, Value.ref 58, Value.none, Value.none, Value.none, Value.none, Value.int 254 0, Value.int 14 0, Value.str (Str.ofString "/claim/cut.py") 255] }
noncomputable def ob60 (_ : Params) : Obj := { cls := Value.type "frame", slots := #[Option.some (Value.ref 59), Option.some (Value.ref 3), Option.some (Value.ref 56), Option.none, Option.some (Value.str (Str.ofString "scheme.errors") 187), Option.none, Option.some (Value.ref 0)] }
noncomputable def ob61 (_ : Params) : Obj := { cls := Value.type "tuple", data := Data.seq #[] }
noncomputable def ob62 (_ : Params) : Obj := { cls := Value.none, data := Data.fields #[] }
noncomputable def ob63 (_ : Params) : Obj := { cls := Value.type "tuple", data := Data.seq #[Value.str (Str.ofString "self") 264, Value.str (Str.ofString "name") 265] }
noncomputable def ob64 (_ : Params) : Obj := { cls := Value.type "tuple", data := Data.seq #[] }
noncomputable def ob65 (_ : Params) : Obj := { cls := Value.none, data := Data.func { name := Str.ofString "__init__", qualname := Str.ofString "DivisionByZero.__init__", params := (mdAt 3 0).1, body := (mdAt 3 0).2.1, scope := (mdAt 3 0).2.2, globals := 0, closure := [], defaults := Value.none, kwdefaults := Value.none } }
noncomputable def ob66 (_ : Params) : Obj := { cls := Value.type "code", data := Data.fields #[Value.str (Str.ofString "__init__") 261, Value.str (Str.ofString "DivisionByZero.__init__") 262, Value.str (Str.ofString "/claim/cut.py") 263, Value.int 16 0, Value.int 2 0, Value.int 0 0, Value.int 0 0, Value.int 3 0, Value.ref 61, Value.bool Bool.true, Value.int 181 0, Value.ref 62, Value.none, Value.ref 63, Value.ref 64, Value.ref 65, Value.int 266 0, Value.int 16 0, Value.str (Str.ofString "/claim/cut.py") 267] }
noncomputable def ob67 (_ : Params) : Obj := { cls := Value.type "function", data := Data.func { name := Str.ofString "__init__", qualname := Str.ofString "DivisionByZero.__init__", params := (mdAt 3 0).1, body := (mdAt 3 0).2.1, scope := (mdAt 3 0).2.2, globals := 3, closure := [], defaults := Value.none, kwdefaults := Value.none, pyModule := Value.str (Str.ofString "scheme.errors") 187, code := Value.ref 66 } }
noncomputable def ob68 (_ : Params) : Obj := { cls := Value.type "tuple", data := Data.seq #[Value.str (Str.ofString "name") 269] }
noncomputable def ob69 (P : Params) : Obj := { cls := Value.type "dict", data := Data.dict #[{ hash := PyData.keyHash P (Str.ofString "__module__"), key := Value.str (Str.ofString "__module__") 256, val := Value.str (Str.ofString "scheme.errors") 187 }, { hash := PyData.keyHash P (Str.ofString "__firstlineno__"), key := Value.str (Str.ofString "__firstlineno__") 260, val := Value.int 14 259 }, { hash := PyData.keyHash P (Str.ofString "__init__"), key := Value.str (Str.ofString "__init__") 268, val := Value.ref 67 }, { hash := PyData.keyHash P (Str.ofString "__static_attributes__"), key := Value.str (Str.ofString "__static_attributes__") 270, val := Value.ref 68 }, { hash := PyData.keyHash P (Str.ofString "__doc__"), key := Value.str (Str.ofString "__doc__") 271, val := Value.none }] 2 }
noncomputable def ob70 (_ : Params) : Obj := { cls := Value.type "type", data := Data.cls { name := Str.ofString "DivisionByZero", bases := [Value.ref 31], mro := [Value.ref 70, Value.ref 31, Value.type "Exception", Value.type "BaseException", Value.type "object"], ns := 69, qualname := Str.ofString "DivisionByZero" }, slots := #[Option.some (Value.ref 54), Option.none, Option.some (Value.str (Str.ofString "DivisionByZero") 249), Option.some (Value.str (Str.ofString "DivisionByZero") 257), Option.some (Value.builtin "Exception.__new__"), Option.some (Value.bool Bool.true)] }
noncomputable def ob71 (_ : Params) : Obj := { cls := Value.type "super", data := Data.fields #[Value.ref 70, Value.ref 70, Value.ref 70] }
noncomputable def ob72 (_ : Params) : Obj := { cls := Value.type "builtin_function_or_method", data := Data.fields #[Value.builtin "object.__init_subclass__", Value.ref 70] }
noncomputable def ob73 (_ : Params) : Obj := { cls := Value.type "tuple", data := Data.seq #[Value.ref 31] }
noncomputable def ob74 (_ : Params) : Obj := { cls := Value.type "builtin_function_or_method", data := Data.fields #[Value.builtin "type.__prepare__", Value.type "type"] }
noncomputable def ob75 (P : Params) : Obj := { cls := Value.type "dict", data := Data.dict #[{ hash := PyData.keyHash P (Str.ofString "__module__"), key := Value.str (Str.ofString "__module__") 281, val := Value.str (Str.ofString "scheme.errors") 187 }, { hash := PyData.keyHash P (Str.ofString "__qualname__"), key := Value.str (Str.ofString "__qualname__") 283, val := Value.str (Str.ofString "OutOfDomain") 282 }, { hash := PyData.keyHash P (Str.ofString "__firstlineno__"), key := Value.str (Str.ofString "__firstlineno__") 285, val := Value.int 19 284 }, { hash := PyData.keyHash P (Str.ofString "__init__"), key := Value.str (Str.ofString "__init__") 293, val := Value.ref 86 }, { hash := PyData.keyHash P (Str.ofString "__static_attributes__"), key := Value.str (Str.ofString "__static_attributes__") 295, val := Value.ref 87 }] 5 }
noncomputable def ob76 (_ : Params) : Obj := { cls := Value.type "tuple", data := Data.seq #[] }
noncomputable def ob77 (_ : Params) : Obj := { cls := Value.none, data := Data.fields #[Value.int 21 0, Value.int 4 0, Value.ref 85] }
noncomputable def ob78 (_ : Params) : Obj := { cls := Value.type "code", data := Data.fields #[Value.str (Str.ofString "OutOfDomain") 276, Value.str (Str.ofString "OutOfDomain") 277, Value.str (Str.ofString "/claim/cut.py") 278, Value.int 19 0, Value.int 0 0, Value.int 0 0, Value.int 0 0, Value.int 0 0, Value.ref 76, Value.bool Bool.false, Value.int 181 0, Value.ref 77, Value.none, Value.none, Value.none, Value.none, Value.int 279 0, Value.int 19 0, Value.str (Str.ofString "/claim/cut.py") 280] }
noncomputable def ob79 (_ : Params) : Obj := { cls := Value.type "frame", slots := #[Option.some (Value.ref 78), Option.some (Value.ref 3), Option.some (Value.ref 75), Option.none, Option.some (Value.str (Str.ofString "scheme.errors") 187), Option.none, Option.some (Value.ref 0)] }
noncomputable def ob80 (_ : Params) : Obj := { cls := Value.type "tuple", data := Data.seq #[] }
noncomputable def ob81 (_ : Params) : Obj := { cls := Value.none, data := Data.fields #[] }
noncomputable def ob82 (_ : Params) : Obj := { cls := Value.type "tuple", data := Data.seq #[Value.str (Str.ofString "self") 289, Value.str (Str.ofString "name") 290] }
noncomputable def ob83 (_ : Params) : Obj := { cls := Value.type "tuple", data := Data.seq #[] }
noncomputable def ob84 (_ : Params) : Obj := { cls := Value.none, data := Data.func { name := Str.ofString "__init__", qualname := Str.ofString "OutOfDomain.__init__", params := (mdAt 4 0).1, body := (mdAt 4 0).2.1, scope := (mdAt 4 0).2.2, globals := 0, closure := [], defaults := Value.none, kwdefaults := Value.none } }
noncomputable def ob85 (_ : Params) : Obj := { cls := Value.type "code", data := Data.fields #[Value.str (Str.ofString "__init__") 286, Value.str (Str.ofString "OutOfDomain.__init__") 287, Value.str (Str.ofString "/claim/cut.py") 288, Value.int 21 0, Value.int 2 0, Value.int 0 0, Value.int 0 0, Value.int 3 0, Value.ref 80, Value.bool Bool.true, Value.int 181 0, Value.ref 81, Value.none, Value.ref 82, Value.ref 83, Value.ref 84, Value.int 291 0, Value.int 21 0, Value.str (Str.ofString "/claim/cut.py") 292] }
noncomputable def ob86 (_ : Params) : Obj := { cls := Value.type "function", data := Data.func { name := Str.ofString "__init__", qualname := Str.ofString "OutOfDomain.__init__", params := (mdAt 4 0).1, body := (mdAt 4 0).2.1, scope := (mdAt 4 0).2.2, globals := 3, closure := [], defaults := Value.none, kwdefaults := Value.none, pyModule := Value.str (Str.ofString "scheme.errors") 187, code := Value.ref 85 } }
noncomputable def ob87 (_ : Params) : Obj := { cls := Value.type "tuple", data := Data.seq #[Value.str (Str.ofString "name") 294] }
noncomputable def ob88 (P : Params) : Obj := { cls := Value.type "dict", data := Data.dict #[{ hash := PyData.keyHash P (Str.ofString "__module__"), key := Value.str (Str.ofString "__module__") 281, val := Value.str (Str.ofString "scheme.errors") 187 }, { hash := PyData.keyHash P (Str.ofString "__firstlineno__"), key := Value.str (Str.ofString "__firstlineno__") 285, val := Value.int 19 284 }, { hash := PyData.keyHash P (Str.ofString "__init__"), key := Value.str (Str.ofString "__init__") 293, val := Value.ref 86 }, { hash := PyData.keyHash P (Str.ofString "__static_attributes__"), key := Value.str (Str.ofString "__static_attributes__") 295, val := Value.ref 87 }, { hash := PyData.keyHash P (Str.ofString "__doc__"), key := Value.str (Str.ofString "__doc__") 296, val := Value.none }] 2 }
noncomputable def ob89 (_ : Params) : Obj := { cls := Value.type "type", data := Data.cls { name := Str.ofString "OutOfDomain", bases := [Value.ref 31], mro := [Value.ref 89, Value.ref 31, Value.type "Exception", Value.type "BaseException", Value.type "object"], ns := 88, qualname := Str.ofString "OutOfDomain" }, slots := #[Option.some (Value.ref 73), Option.none, Option.some (Value.str (Str.ofString "OutOfDomain") 274), Option.some (Value.str (Str.ofString "OutOfDomain") 282), Option.some (Value.builtin "Exception.__new__"), Option.some (Value.bool Bool.true)] }
noncomputable def ob90 (_ : Params) : Obj := { cls := Value.type "super", data := Data.fields #[Value.ref 89, Value.ref 89, Value.ref 89] }
noncomputable def ob91 (_ : Params) : Obj := { cls := Value.type "builtin_function_or_method", data := Data.fields #[Value.builtin "object.__init_subclass__", Value.ref 89] }
noncomputable def ob92 (_ : Params) : Obj := { cls := Value.type "tuple", data := Data.seq #[] }
noncomputable def ob93 (_ : Params) : Obj := { cls := Value.type "builtin_function_or_method", data := Data.fields #[Value.builtin "type.__prepare__", Value.type "type"] }
noncomputable def ob94 (P : Params) : Obj := { cls := Value.type "dict", data := Data.dict #[{ hash := PyData.keyHash P (Str.ofString "__module__"), key := Value.str (Str.ofString "__module__") 312, val := Value.str (Str.ofString "scheme.binary") 299 }, { hash := PyData.keyHash P (Str.ofString "__qualname__"), key := Value.str (Str.ofString "__qualname__") 314, val := Value.str (Str.ofString "Real") 313 }, { hash := PyData.keyHash P (Str.ofString "__firstlineno__"), key := Value.str (Str.ofString "__firstlineno__") 316, val := Value.int 26 315 }, { hash := PyData.keyHash P (Str.ofString "__init__"), key := Value.str (Str.ofString "__init__") 325, val := Value.ref 105 }, { hash := PyData.keyHash P (Str.ofString "__static_attributes__"), key := Value.str (Str.ofString "__static_attributes__") 328, val := Value.ref 106 }] 5 }
noncomputable def ob95 (_ : Params) : Obj := { cls := Value.type "tuple", data := Data.seq #[] }
noncomputable def ob96 (_ : Params) : Obj := { cls := Value.none, data := Data.fields #[Value.int 28 0, Value.int 4 0, Value.ref 104] }
noncomputable def ob97 (_ : Params) : Obj := { cls := Value.type "code", data := Data.fields #[Value.str (Str.ofString "Real") 307, Value.str (Str.ofString "Real") 308, Value.str (Str.ofString "/claim/cut.py") 309, Value.int 26 0, Value.int 0 0, Value.int 0 0, Value.int 0 0, Value.int 0 0, Value.ref 95, Value.bool Bool.false, Value.int 181 0, Value.ref 96, Value.none, Value.none, Value.none, Value.none, Value.int 310 0, Value.int 26 0, Value.str (Str.ofString "/claim/cut.py") 311] }
noncomputable def ob98 (_ : Params) : Obj := { cls := Value.type "frame", slots := #[Option.some (Value.ref 97), Option.some (Value.ref 3), Option.some (Value.ref 94), Option.none, Option.some (Value.str (Str.ofString "scheme.binary") 299), Option.none, Option.some (Value.ref 0)] }
noncomputable def ob99 (_ : Params) : Obj := { cls := Value.type "tuple", data := Data.seq #[] }
noncomputable def ob100 (_ : Params) : Obj := { cls := Value.none, data := Data.fields #[] }
noncomputable def ob101 (_ : Params) : Obj := { cls := Value.type "tuple", data := Data.seq #[Value.str (Str.ofString "self") 320, Value.str (Str.ofString "mantissa") 321, Value.str (Str.ofString "exponent") 322] }
noncomputable def ob102 (_ : Params) : Obj := { cls := Value.type "tuple", data := Data.seq #[] }
noncomputable def ob103 (_ : Params) : Obj := { cls := Value.none, data := Data.func { name := Str.ofString "__init__", qualname := Str.ofString "Real.__init__", params := (mdAt 7 0).1, body := (mdAt 7 0).2.1, scope := (mdAt 7 0).2.2, globals := 0, closure := [], defaults := Value.none, kwdefaults := Value.none } }
noncomputable def ob104 (_ : Params) : Obj := { cls := Value.type "code", data := Data.fields #[Value.str (Str.ofString "__init__") 317, Value.str (Str.ofString "Real.__init__") 318, Value.str (Str.ofString "/claim/cut.py") 319, Value.int 28 0, Value.int 3 0, Value.int 0 0, Value.int 0 0, Value.int 3 0, Value.ref 99, Value.bool Bool.true, Value.int 181 0, Value.ref 100, Value.none, Value.ref 101, Value.ref 102, Value.ref 103, Value.int 323 0, Value.int 28 0, Value.str (Str.ofString "/claim/cut.py") 324] }
noncomputable def ob105 (_ : Params) : Obj := { cls := Value.type "function", data := Data.func { name := Str.ofString "__init__", qualname := Str.ofString "Real.__init__", params := (mdAt 7 0).1, body := (mdAt 7 0).2.1, scope := (mdAt 7 0).2.2, globals := 3, closure := [], defaults := Value.none, kwdefaults := Value.none, pyModule := Value.str (Str.ofString "scheme.binary") 299, code := Value.ref 104 } }
noncomputable def ob106 (_ : Params) : Obj := { cls := Value.type "tuple", data := Data.seq #[Value.str (Str.ofString "exponent") 326, Value.str (Str.ofString "mantissa") 327] }
noncomputable def ob107 (P : Params) : Obj := { cls := Value.type "dict", data := Data.dict #[{ hash := PyData.keyHash P (Str.ofString "__module__"), key := Value.str (Str.ofString "__module__") 312, val := Value.str (Str.ofString "scheme.binary") 299 }, { hash := PyData.keyHash P (Str.ofString "__firstlineno__"), key := Value.str (Str.ofString "__firstlineno__") 316, val := Value.int 26 315 }, { hash := PyData.keyHash P (Str.ofString "__init__"), key := Value.str (Str.ofString "__init__") 325, val := Value.ref 105 }, { hash := PyData.keyHash P (Str.ofString "__static_attributes__"), key := Value.str (Str.ofString "__static_attributes__") 328, val := Value.ref 106 }, { hash := PyData.keyHash P (Str.ofString "__dict__"), key := Value.str (Str.ofString "__dict__") 330, val := Value.ref 109 }, { hash := PyData.keyHash P (Str.ofString "__weakref__"), key := Value.str (Str.ofString "__weakref__") 332, val := Value.ref 110 }, { hash := PyData.keyHash P (Str.ofString "__doc__"), key := Value.str (Str.ofString "__doc__") 333, val := Value.none }] 4 }
noncomputable def ob108 (_ : Params) : Obj := { cls := Value.type "type", data := Data.cls { name := Str.ofString "Real", bases := [Value.type "object"], mro := [Value.ref 108, Value.type "object"], ns := 107, qualname := Str.ofString "Real" }, slots := #[Option.none, Option.none, Option.some (Value.str (Str.ofString "Real") 305), Option.some (Value.str (Str.ofString "Real") 313), Option.some (Value.builtin "object.__new__"), Option.some (Value.bool Bool.true)] }
noncomputable def ob109 (_ : Params) : Obj := { cls := Value.type "getset_descriptor", data := Data.fields #[Value.str (Str.ofString "__dict__") 329, Value.ref 108, Value.builtin "function.__dict__", Value.builtin "function.__dict__#set"] }
noncomputable def ob110 (_ : Params) : Obj := { cls := Value.type "getset_descriptor", data := Data.fields #[Value.str (Str.ofString "__weakref__") 331, Value.ref 108, Value.builtin "ExceptionGroup.__weakref__", Value.none] }
noncomputable def ob111 (_ : Params) : Obj := { cls := Value.type "super", data := Data.fields #[Value.ref 108, Value.ref 108, Value.ref 108] }
noncomputable def ob112 (_ : Params) : Obj := { cls := Value.type "builtin_function_or_method", data := Data.fields #[Value.builtin "object.__init_subclass__", Value.ref 108] }
noncomputable def hM0 (P : Params) : Heap := { objs := Array.mk [boot_o_0 P, boot_o_1 P, ob2 P, ob3 P, boot_o_4 P, boot_o_5 P, boot_o_6 P, boot_o_7 P, boot_o_8 P, boot_o_9 P, boot_o_10 P, ob11 P, ob12' P, ob13 P, ob14 P, ob15 P, ob16 P, ob17 P, ob18 P, ob19 P, ob20 P, ob21 P, ob22 P, ob23 P, ob24 P, ob25 P, ob26 P, ob27 P, ob28 P, ob29 P, ob30 P, ob31 P, ob32 P, ob33 P, ob34 P, ob35 P, ob36 P, ob37 P, ob38 P, ob39 P, ob40 P, ob41 P, ob42 P, ob43 P, ob44 P, ob45 P, ob46 P, ob47 P, ob48 P, ob49 P, ob50 P, ob51 P, ob52 P, ob53 P, ob54 P, ob55 P, ob56 P, ob57 P, ob58 P, ob59 P, ob60 P, ob61 P, ob62 P, ob63 P, ob64 P, ob65 P, ob66 P, ob67 P, ob68 P, ob69 P, ob70 P, ob71 P, ob72 P, ob73 P, ob74 P, ob75 P, ob76 P, ob77 P, ob78 P, ob79 P, ob80 P, ob81 P, ob82 P, ob83 P, ob84 P, ob85 P, ob86 P, ob87 P, ob88 P, ob89 P, ob90 P, ob91 P, ob92 P, ob93 P, ob94 P, ob95 P, ob96 P, ob97 P, ob98 P, ob99 P, ob100 P, ob101 P, ob102 P, ob103 P, ob104 P, ob105 P, ob106 P, ob107 P, ob108 P, ob109 P, ob110 P, ob111 P, ob112 P] }
noncomputable def ob3' (P : Params) : Obj := { cls := Value.type "dict", data := Data.dict #[{ hash := PyData.keyHash P (Str.ofString "__name__"), key := Value.str (Str.ofString "__name__") 165, val := Value.str (Str.ofString "law_pq1015_01") 533 }, { hash := PyData.keyHash P (Str.ofString "__doc__"), key := Value.str (Str.ofString "__doc__") 166, val := Value.none }, { hash := PyData.keyHash P (Str.ofString "__package__"), key := Value.str (Str.ofString "__package__") 167, val := Value.none }, { hash := PyData.keyHash P (Str.ofString "__loader__"), key := Value.str (Str.ofString "__loader__") 168, val := Value.builtin "__main__.__loader__#opaque" }, { hash := PyData.keyHash P (Str.ofString "__spec__"), key := Value.str (Str.ofString "__spec__") 169, val := Value.none }, { hash := PyData.keyHash P (Str.ofString "__annotations__"), key := Value.str (Str.ofString "__annotations__") 170, val := Value.ref 6 }, { hash := PyData.keyHash P (Str.ofString "__builtins__"), key := Value.str (Str.ofString "__builtins__") 171, val := Value.ref 4 }, { hash := PyData.keyHash P (Str.ofString "__file__"), key := Value.str (Str.ofString "__file__") 173, val := Value.str (Str.ofString "/claim/cut.py") 172 }, { hash := PyData.keyHash P (Str.ofString "__cached__"), key := Value.str (Str.ofString "__cached__") 174, val := Value.none }, { hash := PyData.keyHash P (Str.ofString "SchemeError"), key := Value.str (Str.ofString "SchemeError") 219, val := Value.ref 31 }, { hash := PyData.keyHash P (Str.ofString "OutOfRange"), key := Value.str (Str.ofString "OutOfRange") 248, val := Value.ref 51 }, { hash := PyData.keyHash P (Str.ofString "DivisionByZero"), key := Value.str (Str.ofString "DivisionByZero") 273, val := Value.ref 70 }, { hash := PyData.keyHash P (Str.ofString "OutOfDomain"), key := Value.str (Str.ofString "OutOfDomain") 298, val := Value.ref 89 }, { hash := PyData.keyHash P (Str.ofString "REACH"), key := Value.str (Str.ofString "REACH") 304, val := Value.int 65536 303 }, { hash := PyData.keyHash P (Str.ofString "Real"), key := Value.str (Str.ofString "Real") 335, val := Value.ref 108 }, { hash := PyData.keyHash P (Str.ofString "size_of"), key := Value.str (Str.ofString "size_of") 342, val := Value.ref 119 }, { hash := PyData.keyHash P (Str.ofString "sign_of_whole"), key := Value.str (Str.ofString "sign_of_whole") 349, val := Value.ref 126 }, { hash := PyData.keyHash P (Str.ofString "zeros_below"), key := Value.str (Str.ofString "zeros_below") 356, val := Value.ref 133 }, { hash := PyData.keyHash P (Str.ofString "lean"), key := Value.str (Str.ofString "lean") 366, val := Value.ref 140 }, { hash := PyData.keyHash P (Str.ofString "nearest_shift"), key := Value.str (Str.ofString "nearest_shift") 377, val := Value.ref 147 }, { hash := PyData.keyHash P (Str.ofString "shifted_round"), key := Value.str (Str.ofString "shifted_round") 387, val := Value.ref 154 }, { hash := PyData.keyHash P (Str.ofString "with_sticky"), key := Value.str (Str.ofString "with_sticky") 395, val := Value.ref 161 }, { hash := PyData.keyHash P (Str.ofString "rounded"), key := Value.str (Str.ofString "rounded") 407, val := Value.ref 168 }, { hash := PyData.keyHash P (Str.ofString "place_of"), key := Value.str (Str.ofString "place_of") 414, val := Value.ref 175 }, { hash := PyData.keyHash P (Str.ofString "sign_of"), key := Value.str (Str.ofString "sign_of") 421, val := Value.ref 182 }, { hash := PyData.keyHash P (Str.ofString "negative"), key := Value.str (Str.ofString "negative") 428, val := Value.ref 189 }, { hash := PyData.keyHash P (Str.ofString "magnitude"), key := Value.str (Str.ofString "magnitude") 435, val := Value.ref 196 }, { hash := PyData.keyHash P (Str.ofString "same_real"), key := Value.str (Str.ofString "same_real") 443, val := Value.ref 203 }, { hash := PyData.keyHash P (Str.ofString "compare_magnitudes"), key := Value.str (Str.ofString "compare_magnitudes") 452, val := Value.ref 210 }, { hash := PyData.keyHash P (Str.ofString "compare_reals"), key := Value.str (Str.ofString "compare_reals") 460, val := Value.ref 217 }, { hash := PyData.keyHash P (Str.ofString "far_sum"), key := Value.str (Str.ofString "far_sum") 470, val := Value.ref 224 }, { hash := PyData.keyHash P (Str.ofString "add_reals"), key := Value.str (Str.ofString "add_reals") 484, val := Value.ref 231 }, { hash := PyData.keyHash P (Str.ofString "subtract_reals"), key := Value.str (Str.ofString "subtract_reals") 493, val := Value.ref 238 }, { hash := PyData.keyHash P (Str.ofString "multiply_reals"), key := Value.str (Str.ofString "multiply_reals") 502, val := Value.ref 245 }, { hash := PyData.keyHash P (Str.ofString "divide_reals"), key := Value.str (Str.ofString "divide_reals") 512, val := Value.ref 252 }, { hash := PyData.keyHash P (Str.ofString "root_below"), key := Value.str (Str.ofString "root_below") 521, val := Value.ref 259 }, { hash := PyData.keyHash P (Str.ofString "sqrt_real"), key := Value.str (Str.ofString "sqrt_real") 532, val := Value.ref 266 }, { hash := PyData.keyHash P (Str.ofString "_law_drawn"), key := Value.str (Str.ofString "_law_drawn") 542, val := Value.ref 273 }, { hash := PyData.keyHash P (Str.ofString "_law_real"), key := Value.str (Str.ofString "_law_real") 550, val := Value.ref 280 }, { hash := PyData.keyHash P (Str.ofString "_law_at"), key := Value.str (Str.ofString "_law_at") 558, val := Value.ref 287 }, { hash := PyData.keyHash P (Str.ofString "_law_is_ordered"), key := Value.str (Str.ofString "_law_is_ordered") 564, val := Value.ref 292 }, { hash := PyData.keyHash P (Str.ofString "_law_is_even"), key := Value.str (Str.ofString "_law_is_even") 570, val := Value.ref 297 }, { hash := PyData.keyHash P (Str.ofString "_law_is_exact"), key := Value.str (Str.ofString "_law_is_exact") 585, val := Value.ref 304 }, { hash := PyData.keyHash P (Str.ofString "law"), key := Value.str (Str.ofString "law") 591, val := Value.ref 309 }] 44 }
noncomputable def ob12'' (_ : Params) : Obj := { cls := Value.none, data := Data.fields #[Value.int 2 0, Value.int 0 0, Value.ref 20, Value.int 7 0, Value.int 0 0, Value.ref 40, Value.int 14 0, Value.int 0 0, Value.ref 59, Value.int 19 0, Value.int 0 0, Value.ref 78, Value.int 26 0, Value.int 0 0, Value.ref 97, Value.int 31 0, Value.int 0 0, Value.ref 118, Value.int 33 0, Value.int 0 0, Value.ref 125, Value.int 35 0, Value.int 0 0, Value.ref 132, Value.int 37 0, Value.int 0 0, Value.ref 139, Value.int 44 0, Value.int 0 0, Value.ref 146, Value.int 49 0, Value.int 0 0, Value.ref 153, Value.int 54 0, Value.int 0 0, Value.ref 160, Value.int 56 0, Value.int 0 0, Value.ref 167, Value.int 65 0, Value.int 0 0, Value.ref 174, Value.int 67 0, Value.int 0 0, Value.ref 181, Value.int 69 0, Value.int 0 0, Value.ref 188, Value.int 71 0, Value.int 0 0, Value.ref 195, Value.int 73 0, Value.int 0 0, Value.ref 202, Value.int 75 0, Value.int 0 0, Value.ref 209, Value.int 80 0, Value.int 0 0, Value.ref 216, Value.int 86 0, Value.int 0 0, Value.ref 223, Value.int 89 0, Value.int 0 0, Value.ref 230, Value.int 99 0, Value.int 0 0, Value.ref 237, Value.int 101 0, Value.int 0 0, Value.ref 244, Value.int 103 0, Value.int 0 0, Value.ref 251, Value.int 108 0, Value.int 0 0, Value.ref 258, Value.int 117 0, Value.int 0 0, Value.ref 265, Value.int 128 0, Value.int 0 0, Value.ref 272, Value.int 133 0, Value.int 0 0, Value.ref 279, Value.int 135 0, Value.int 0 0, Value.ref 286, Value.int 137 0, Value.int 0 0, Value.ref 291, Value.int 149 0, Value.int 0 0, Value.ref 296, Value.int 163 0, Value.int 0 0, Value.ref 303, Value.int 172 0, Value.int 0 0, Value.ref 308] }
noncomputable def ob113 (_ : Params) : Obj := { cls := Value.type "tuple", data := Data.seq #[] }
noncomputable def ob114 (_ : Params) : Obj := { cls := Value.none, data := Data.fields #[] }
noncomputable def ob115 (_ : Params) : Obj := { cls := Value.type "tuple", data := Data.seq #[Value.str (Str.ofString "number") 339] }
noncomputable def ob116 (_ : Params) : Obj := { cls := Value.type "tuple", data := Data.seq #[] }
noncomputable def ob117 (_ : Params) : Obj := { cls := Value.none, data := Data.func { name := Str.ofString "size_of", qualname := Str.ofString "size_of", params := (fdAt 8).1, body := (fdAt 8).2.1, scope := (fdAt 8).2.2, globals := 0, closure := [], defaults := Value.none, kwdefaults := Value.none } }
noncomputable def ob118 (_ : Params) : Obj := { cls := Value.type "code", data := Data.fields #[Value.str (Str.ofString "size_of") 336, Value.str (Str.ofString "size_of") 337, Value.str (Str.ofString "/claim/cut.py") 338, Value.int 31 0, Value.int 1 0, Value.int 0 0, Value.int 0 0, Value.int 3 0, Value.ref 113, Value.bool Bool.true, Value.int 181 0, Value.ref 114, Value.none, Value.ref 115, Value.ref 116, Value.ref 117, Value.int 340 0, Value.int 31 0, Value.str (Str.ofString "/claim/cut.py") 341] }
noncomputable def ob119 (_ : Params) : Obj := { cls := Value.type "function", data := Data.func { name := Str.ofString "size_of", qualname := Str.ofString "size_of", params := (fdAt 8).1, body := (fdAt 8).2.1, scope := (fdAt 8).2.2, globals := 3, closure := [], defaults := Value.none, kwdefaults := Value.none, pyModule := Value.str (Str.ofString "scheme.binary") 299, code := Value.ref 118 } }
noncomputable def ob120 (_ : Params) : Obj := { cls := Value.type "tuple", data := Data.seq #[] }
noncomputable def ob121 (_ : Params) : Obj := { cls := Value.none, data := Data.fields #[] }
noncomputable def ob122 (_ : Params) : Obj := { cls := Value.type "tuple", data := Data.seq #[Value.str (Str.ofString "number") 346] }
noncomputable def ob123 (_ : Params) : Obj := { cls := Value.type "tuple", data := Data.seq #[] }
noncomputable def ob124 (_ : Params) : Obj := { cls := Value.none, data := Data.func { name := Str.ofString "sign_of_whole", qualname := Str.ofString "sign_of_whole", params := (fdAt 9).1, body := (fdAt 9).2.1, scope := (fdAt 9).2.2, globals := 0, closure := [], defaults := Value.none, kwdefaults := Value.none } }
noncomputable def ob125 (_ : Params) : Obj := { cls := Value.type "code", data := Data.fields #[Value.str (Str.ofString "sign_of_whole") 343, Value.str (Str.ofString "sign_of_whole") 344, Value.str (Str.ofString "/claim/cut.py") 345, Value.int 33 0, Value.int 1 0, Value.int 0 0, Value.int 0 0, Value.int 3 0, Value.ref 120, Value.bool Bool.true, Value.int 181 0, Value.ref 121, Value.none, Value.ref 122, Value.ref 123, Value.ref 124, Value.int 347 0, Value.int 33 0, Value.str (Str.ofString "/claim/cut.py") 348] }
noncomputable def ob126 (_ : Params) : Obj := { cls := Value.type "function", data := Data.func { name := Str.ofString "sign_of_whole", qualname := Str.ofString "sign_of_whole", params := (fdAt 9).1, body := (fdAt 9).2.1, scope := (fdAt 9).2.2, globals := 3, closure := [], defaults := Value.none, kwdefaults := Value.none, pyModule := Value.str (Str.ofString "scheme.binary") 299, code := Value.ref 125 } }
noncomputable def ob127 (_ : Params) : Obj := { cls := Value.type "tuple", data := Data.seq #[] }
noncomputable def ob128 (_ : Params) : Obj := { cls := Value.none, data := Data.fields #[] }
noncomputable def ob129 (_ : Params) : Obj := { cls := Value.type "tuple", data := Data.seq #[Value.str (Str.ofString "number") 353] }
noncomputable def ob130 (_ : Params) : Obj := { cls := Value.type "tuple", data := Data.seq #[] }
noncomputable def ob131 (_ : Params) : Obj := { cls := Value.none, data := Data.func { name := Str.ofString "zeros_below", qualname := Str.ofString "zeros_below", params := (fdAt 10).1, body := (fdAt 10).2.1, scope := (fdAt 10).2.2, globals := 0, closure := [], defaults := Value.none, kwdefaults := Value.none } }
noncomputable def ob132 (_ : Params) : Obj := { cls := Value.type "code", data := Data.fields #[Value.str (Str.ofString "zeros_below") 350, Value.str (Str.ofString "zeros_below") 351, Value.str (Str.ofString "/claim/cut.py") 352, Value.int 35 0, Value.int 1 0, Value.int 0 0, Value.int 0 0, Value.int 3 0, Value.ref 127, Value.bool Bool.true, Value.int 181 0, Value.ref 128, Value.none, Value.ref 129, Value.ref 130, Value.ref 131, Value.int 354 0, Value.int 35 0, Value.str (Str.ofString "/claim/cut.py") 355] }
noncomputable def ob133 (_ : Params) : Obj := { cls := Value.type "function", data := Data.func { name := Str.ofString "zeros_below", qualname := Str.ofString "zeros_below", params := (fdAt 10).1, body := (fdAt 10).2.1, scope := (fdAt 10).2.2, globals := 3, closure := [], defaults := Value.none, kwdefaults := Value.none, pyModule := Value.str (Str.ofString "scheme.binary") 299, code := Value.ref 132 } }
noncomputable def ob134 (_ : Params) : Obj := { cls := Value.type "tuple", data := Data.seq #[] }
noncomputable def ob135 (_ : Params) : Obj := { cls := Value.none, data := Data.fields #[] }
noncomputable def ob136 (_ : Params) : Obj := { cls := Value.type "tuple", data := Data.seq #[Value.str (Str.ofString "mantissa") 360, Value.str (Str.ofString "exponent") 361, Value.str (Str.ofString "gone") 362, Value.str (Str.ofString "place") 363] }
noncomputable def ob137 (_ : Params) : Obj := { cls := Value.type "tuple", data := Data.seq #[] }
noncomputable def ob138 (_ : Params) : Obj := { cls := Value.none, data := Data.func { name := Str.ofString "lean", qualname := Str.ofString "lean", params := (fdAt 11).1, body := (fdAt 11).2.1, scope := (fdAt 11).2.2, globals := 0, closure := [], defaults := Value.none, kwdefaults := Value.none } }
noncomputable def ob139 (_ : Params) : Obj := { cls := Value.type "code", data := Data.fields #[Value.str (Str.ofString "lean") 357, Value.str (Str.ofString "lean") 358, Value.str (Str.ofString "/claim/cut.py") 359, Value.int 37 0, Value.int 2 0, Value.int 0 0, Value.int 0 0, Value.int 3 0, Value.ref 134, Value.bool Bool.true, Value.int 181 0, Value.ref 135, Value.none, Value.ref 136, Value.ref 137, Value.ref 138, Value.int 364 0, Value.int 37 0, Value.str (Str.ofString "/claim/cut.py") 365] }
noncomputable def ob140 (_ : Params) : Obj := { cls := Value.type "function", data := Data.func { name := Str.ofString "lean", qualname := Str.ofString "lean", params := (fdAt 11).1, body := (fdAt 11).2.1, scope := (fdAt 11).2.2, globals := 3, closure := [], defaults := Value.none, kwdefaults := Value.none, pyModule := Value.str (Str.ofString "scheme.binary") 299, code := Value.ref 139 } }
noncomputable def ob141 (_ : Params) : Obj := { cls := Value.type "tuple", data := Data.seq #[] }
noncomputable def ob142 (_ : Params) : Obj := { cls := Value.none, data := Data.fields #[] }
noncomputable def ob143 (_ : Params) : Obj := { cls := Value.type "tuple", data := Data.seq #[Value.str (Str.ofString "number") 370, Value.str (Str.ofString "gone") 371, Value.str (Str.ofString "kept") 372, Value.str (Str.ofString "rest") 373, Value.str (Str.ofString "half") 374] }
noncomputable def ob144 (_ : Params) : Obj := { cls := Value.type "tuple", data := Data.seq #[] }
noncomputable def ob145 (_ : Params) : Obj := { cls := Value.none, data := Data.func { name := Str.ofString "nearest_shift", qualname := Str.ofString "nearest_shift", params := (fdAt 12).1, body := (fdAt 12).2.1, scope := (fdAt 12).2.2, globals := 0, closure := [], defaults := Value.none, kwdefaults := Value.none } }
noncomputable def ob146 (_ : Params) : Obj := { cls := Value.type "code", data := Data.fields #[Value.str (Str.ofString "nearest_shift") 367, Value.str (Str.ofString "nearest_shift") 368, Value.str (Str.ofString "/claim/cut.py") 369, Value.int 44 0, Value.int 2 0, Value.int 0 0, Value.int 0 0, Value.int 3 0, Value.ref 141, Value.bool Bool.true, Value.int 181 0, Value.ref 142, Value.none, Value.ref 143, Value.ref 144, Value.ref 145, Value.int 375 0, Value.int 44 0, Value.str (Str.ofString "/claim/cut.py") 376] }
noncomputable def ob147 (_ : Params) : Obj := { cls := Value.type "function", data := Data.func { name := Str.ofString "nearest_shift", qualname := Str.ofString "nearest_shift", params := (fdAt 12).1, body := (fdAt 12).2.1, scope := (fdAt 12).2.2, globals := 3, closure := [], defaults := Value.none, kwdefaults := Value.none, pyModule := Value.str (Str.ofString "scheme.binary") 299, code := Value.ref 146 } }
noncomputable def ob148 (_ : Params) : Obj := { cls := Value.type "tuple", data := Data.seq #[] }
noncomputable def ob149 (_ : Params) : Obj := { cls := Value.none, data := Data.fields #[] }
noncomputable def ob150 (_ : Params) : Obj := { cls := Value.type "tuple", data := Data.seq #[Value.str (Str.ofString "precision") 381, Value.str (Str.ofString "mantissa") 382, Value.str (Str.ofString "exponent") 383, Value.str (Str.ofString "gone") 384] }
noncomputable def ob151 (_ : Params) : Obj := { cls := Value.type "tuple", data := Data.seq #[] }
noncomputable def ob152 (_ : Params) : Obj := { cls := Value.none, data := Data.func { name := Str.ofString "shifted_round", qualname := Str.ofString "shifted_round", params := (fdAt 13).1, body := (fdAt 13).2.1, scope := (fdAt 13).2.2, globals := 0, closure := [], defaults := Value.none, kwdefaults := Value.none } }
noncomputable def ob153 (_ : Params) : Obj := { cls := Value.type "code", data := Data.fields #[Value.str (Str.ofString "shifted_round") 378, Value.str (Str.ofString "shifted_round") 379, Value.str (Str.ofString "/claim/cut.py") 380, Value.int 49 0, Value.int 3 0, Value.int 0 0, Value.int 0 0, Value.int 3 0, Value.ref 148, Value.bool Bool.true, Value.int 181 0, Value.ref 149, Value.none, Value.ref 150, Value.ref 151, Value.ref 152, Value.int 385 0, Value.int 49 0, Value.str (Str.ofString "/claim/cut.py") 386] }
noncomputable def ob154 (_ : Params) : Obj := { cls := Value.type "function", data := Data.func { name := Str.ofString "shifted_round", qualname := Str.ofString "shifted_round", params := (fdAt 13).1, body := (fdAt 13).2.1, scope := (fdAt 13).2.2, globals := 3, closure := [], defaults := Value.none, kwdefaults := Value.none, pyModule := Value.str (Str.ofString "scheme.binary") 299, code := Value.ref 153 } }
noncomputable def ob155 (_ : Params) : Obj := { cls := Value.type "tuple", data := Data.seq #[] }
noncomputable def ob156 (_ : Params) : Obj := { cls := Value.none, data := Data.fields #[] }
noncomputable def ob157 (_ : Params) : Obj := { cls := Value.type "tuple", data := Data.seq #[Value.str (Str.ofString "number") 391, Value.str (Str.ofString "is_more") 392] }
noncomputable def ob158 (_ : Params) : Obj := { cls := Value.type "tuple", data := Data.seq #[] }
noncomputable def ob159 (_ : Params) : Obj := { cls := Value.none, data := Data.func { name := Str.ofString "with_sticky", qualname := Str.ofString "with_sticky", params := (fdAt 14).1, body := (fdAt 14).2.1, scope := (fdAt 14).2.2, globals := 0, closure := [], defaults := Value.none, kwdefaults := Value.none } }
noncomputable def ob160 (_ : Params) : Obj := { cls := Value.type "code", data := Data.fields #[Value.str (Str.ofString "with_sticky") 388, Value.str (Str.ofString "with_sticky") 389, Value.str (Str.ofString "/claim/cut.py") 390, Value.int 54 0, Value.int 2 0, Value.int 0 0, Value.int 0 0, Value.int 3 0, Value.ref 155, Value.bool Bool.true, Value.int 181 0, Value.ref 156, Value.none, Value.ref 157, Value.ref 158, Value.ref 159, Value.int 393 0, Value.int 54 0, Value.str (Str.ofString "/claim/cut.py") 394] }
noncomputable def ob161 (_ : Params) : Obj := { cls := Value.type "function", data := Data.func { name := Str.ofString "with_sticky", qualname := Str.ofString "with_sticky", params := (fdAt 14).1, body := (fdAt 14).2.1, scope := (fdAt 14).2.2, globals := 3, closure := [], defaults := Value.none, kwdefaults := Value.none, pyModule := Value.str (Str.ofString "scheme.binary") 299, code := Value.ref 160 } }
noncomputable def ob162 (_ : Params) : Obj := { cls := Value.type "tuple", data := Data.seq #[] }
noncomputable def ob163 (_ : Params) : Obj := { cls := Value.none, data := Data.fields #[] }
noncomputable def ob164 (_ : Params) : Obj := { cls := Value.type "tuple", data := Data.seq #[Value.str (Str.ofString "precision") 399, Value.str (Str.ofString "top") 400, Value.str (Str.ofString "bottom") 401, Value.str (Str.ofString "shift") 402, Value.str (Str.ofString "kept") 403, Value.str (Str.ofString "rest") 404] }
noncomputable def ob165 (_ : Params) : Obj := { cls := Value.type "tuple", data := Data.seq #[] }
noncomputable def ob166 (_ : Params) : Obj := { cls := Value.none, data := Data.func { name := Str.ofString "rounded", qualname := Str.ofString "rounded", params := (fdAt 15).1, body := (fdAt 15).2.1, scope := (fdAt 15).2.2, globals := 0, closure := [], defaults := Value.none, kwdefaults := Value.none } }
noncomputable def ob167 (_ : Params) : Obj := { cls := Value.type "code", data := Data.fields #[Value.str (Str.ofString "rounded") 396, Value.str (Str.ofString "rounded") 397, Value.str (Str.ofString "/claim/cut.py") 398, Value.int 56 0, Value.int 3 0, Value.int 0 0, Value.int 0 0, Value.int 3 0, Value.ref 162, Value.bool Bool.true, Value.int 181 0, Value.ref 163, Value.none, Value.ref 164, Value.ref 165, Value.ref 166, Value.int 405 0, Value.int 56 0, Value.str (Str.ofString "/claim/cut.py") 406] }
noncomputable def ob168 (_ : Params) : Obj := { cls := Value.type "function", data := Data.func { name := Str.ofString "rounded", qualname := Str.ofString "rounded", params := (fdAt 15).1, body := (fdAt 15).2.1, scope := (fdAt 15).2.2, globals := 3, closure := [], defaults := Value.none, kwdefaults := Value.none, pyModule := Value.str (Str.ofString "scheme.binary") 299, code := Value.ref 167 } }
noncomputable def ob169 (_ : Params) : Obj := { cls := Value.type "tuple", data := Data.seq #[] }
noncomputable def ob170 (_ : Params) : Obj := { cls := Value.none, data := Data.fields #[] }
noncomputable def ob171 (_ : Params) : Obj := { cls := Value.type "tuple", data := Data.seq #[Value.str (Str.ofString "real") 411] }
noncomputable def ob172 (_ : Params) : Obj := { cls := Value.type "tuple", data := Data.seq #[] }
noncomputable def ob173 (_ : Params) : Obj := { cls := Value.none, data := Data.func { name := Str.ofString "place_of", qualname := Str.ofString "place_of", params := (fdAt 16).1, body := (fdAt 16).2.1, scope := (fdAt 16).2.2, globals := 0, closure := [], defaults := Value.none, kwdefaults := Value.none } }
noncomputable def ob174 (_ : Params) : Obj := { cls := Value.type "code", data := Data.fields #[Value.str (Str.ofString "place_of") 408, Value.str (Str.ofString "place_of") 409, Value.str (Str.ofString "/claim/cut.py") 410, Value.int 65 0, Value.int 1 0, Value.int 0 0, Value.int 0 0, Value.int 3 0, Value.ref 169, Value.bool Bool.true, Value.int 181 0, Value.ref 170, Value.none, Value.ref 171, Value.ref 172, Value.ref 173, Value.int 412 0, Value.int 65 0, Value.str (Str.ofString "/claim/cut.py") 413] }
noncomputable def ob175 (_ : Params) : Obj := { cls := Value.type "function", data := Data.func { name := Str.ofString "place_of", qualname := Str.ofString "place_of", params := (fdAt 16).1, body := (fdAt 16).2.1, scope := (fdAt 16).2.2, globals := 3, closure := [], defaults := Value.none, kwdefaults := Value.none, pyModule := Value.str (Str.ofString "scheme.binary") 299, code := Value.ref 174 } }
noncomputable def ob176 (_ : Params) : Obj := { cls := Value.type "tuple", data := Data.seq #[] }
noncomputable def ob177 (_ : Params) : Obj := { cls := Value.none, data := Data.fields #[] }
noncomputable def ob178 (_ : Params) : Obj := { cls := Value.type "tuple", data := Data.seq #[Value.str (Str.ofString "real") 418] }
noncomputable def ob179 (_ : Params) : Obj := { cls := Value.type "tuple", data := Data.seq #[] }
noncomputable def ob180 (_ : Params) : Obj := { cls := Value.none, data := Data.func { name := Str.ofString "sign_of", qualname := Str.ofString "sign_of", params := (fdAt 17).1, body := (fdAt 17).2.1, scope := (fdAt 17).2.2, globals := 0, closure := [], defaults := Value.none, kwdefaults := Value.none } }
noncomputable def ob181 (_ : Params) : Obj := { cls := Value.type "code", data := Data.fields #[Value.str (Str.ofString "sign_of") 415, Value.str (Str.ofString "sign_of") 416, Value.str (Str.ofString "/claim/cut.py") 417, Value.int 67 0, Value.int 1 0, Value.int 0 0, Value.int 0 0, Value.int 3 0, Value.ref 176, Value.bool Bool.true, Value.int 181 0, Value.ref 177, Value.none, Value.ref 178, Value.ref 179, Value.ref 180, Value.int 419 0, Value.int 67 0, Value.str (Str.ofString "/claim/cut.py") 420] }
noncomputable def ob182 (_ : Params) : Obj := { cls := Value.type "function", data := Data.func { name := Str.ofString "sign_of", qualname := Str.ofString "sign_of", params := (fdAt 17).1, body := (fdAt 17).2.1, scope := (fdAt 17).2.2, globals := 3, closure := [], defaults := Value.none, kwdefaults := Value.none, pyModule := Value.str (Str.ofString "scheme.binary") 299, code := Value.ref 181 } }
noncomputable def ob183 (_ : Params) : Obj := { cls := Value.type "tuple", data := Data.seq #[] }
noncomputable def ob184 (_ : Params) : Obj := { cls := Value.none, data := Data.fields #[] }
noncomputable def ob185 (_ : Params) : Obj := { cls := Value.type "tuple", data := Data.seq #[Value.str (Str.ofString "real") 425] }
noncomputable def ob186 (_ : Params) : Obj := { cls := Value.type "tuple", data := Data.seq #[] }
noncomputable def ob187 (_ : Params) : Obj := { cls := Value.none, data := Data.func { name := Str.ofString "negative", qualname := Str.ofString "negative", params := (fdAt 18).1, body := (fdAt 18).2.1, scope := (fdAt 18).2.2, globals := 0, closure := [], defaults := Value.none, kwdefaults := Value.none } }
noncomputable def ob188 (_ : Params) : Obj := { cls := Value.type "code", data := Data.fields #[Value.str (Str.ofString "negative") 422, Value.str (Str.ofString "negative") 423, Value.str (Str.ofString "/claim/cut.py") 424, Value.int 69 0, Value.int 1 0, Value.int 0 0, Value.int 0 0, Value.int 3 0, Value.ref 183, Value.bool Bool.true, Value.int 181 0, Value.ref 184, Value.none, Value.ref 185, Value.ref 186, Value.ref 187, Value.int 426 0, Value.int 69 0, Value.str (Str.ofString "/claim/cut.py") 427] }
noncomputable def ob189 (_ : Params) : Obj := { cls := Value.type "function", data := Data.func { name := Str.ofString "negative", qualname := Str.ofString "negative", params := (fdAt 18).1, body := (fdAt 18).2.1, scope := (fdAt 18).2.2, globals := 3, closure := [], defaults := Value.none, kwdefaults := Value.none, pyModule := Value.str (Str.ofString "scheme.binary") 299, code := Value.ref 188 } }
noncomputable def ob190 (_ : Params) : Obj := { cls := Value.type "tuple", data := Data.seq #[] }
noncomputable def ob191 (_ : Params) : Obj := { cls := Value.none, data := Data.fields #[] }
noncomputable def ob192 (_ : Params) : Obj := { cls := Value.type "tuple", data := Data.seq #[Value.str (Str.ofString "real") 432] }
noncomputable def ob193 (_ : Params) : Obj := { cls := Value.type "tuple", data := Data.seq #[] }
noncomputable def ob194 (_ : Params) : Obj := { cls := Value.none, data := Data.func { name := Str.ofString "magnitude", qualname := Str.ofString "magnitude", params := (fdAt 19).1, body := (fdAt 19).2.1, scope := (fdAt 19).2.2, globals := 0, closure := [], defaults := Value.none, kwdefaults := Value.none } }
noncomputable def ob195 (_ : Params) : Obj := { cls := Value.type "code", data := Data.fields #[Value.str (Str.ofString "magnitude") 429, Value.str (Str.ofString "magnitude") 430, Value.str (Str.ofString "/claim/cut.py") 431, Value.int 71 0, Value.int 1 0, Value.int 0 0, Value.int 0 0, Value.int 3 0, Value.ref 190, Value.bool Bool.true, Value.int 181 0, Value.ref 191, Value.none, Value.ref 192, Value.ref 193, Value.ref 194, Value.int 433 0, Value.int 71 0, Value.str (Str.ofString "/claim/cut.py") 434] }
noncomputable def ob196 (_ : Params) : Obj := { cls := Value.type "function", data := Data.func { name := Str.ofString "magnitude", qualname := Str.ofString "magnitude", params := (fdAt 19).1, body := (fdAt 19).2.1, scope := (fdAt 19).2.2, globals := 3, closure := [], defaults := Value.none, kwdefaults := Value.none, pyModule := Value.str (Str.ofString "scheme.binary") 299, code := Value.ref 195 } }
noncomputable def ob197 (_ : Params) : Obj := { cls := Value.type "tuple", data := Data.seq #[] }
noncomputable def ob198 (_ : Params) : Obj := { cls := Value.none, data := Data.fields #[] }
noncomputable def ob199 (_ : Params) : Obj := { cls := Value.type "tuple", data := Data.seq #[Value.str (Str.ofString "one") 439, Value.str (Str.ofString "other") 440] }
noncomputable def ob200 (_ : Params) : Obj := { cls := Value.type "tuple", data := Data.seq #[] }
noncomputable def ob201 (_ : Params) : Obj := { cls := Value.none, data := Data.func { name := Str.ofString "same_real", qualname := Str.ofString "same_real", params := (fdAt 20).1, body := (fdAt 20).2.1, scope := (fdAt 20).2.2, globals := 0, closure := [], defaults := Value.none, kwdefaults := Value.none } }
noncomputable def ob202 (_ : Params) : Obj := { cls := Value.type "code", data := Data.fields #[Value.str (Str.ofString "same_real") 436, Value.str (Str.ofString "same_real") 437, Value.str (Str.ofString "/claim/cut.py") 438, Value.int 73 0, Value.int 2 0, Value.int 0 0, Value.int 0 0, Value.int 3 0, Value.ref 197, Value.bool Bool.true, Value.int 181 0, Value.ref 198, Value.none, Value.ref 199, Value.ref 200, Value.ref 201, Value.int 441 0, Value.int 73 0, Value.str (Str.ofString "/claim/cut.py") 442] }
noncomputable def ob203 (_ : Params) : Obj := { cls := Value.type "function", data := Data.func { name := Str.ofString "same_real", qualname := Str.ofString "same_real", params := (fdAt 20).1, body := (fdAt 20).2.1, scope := (fdAt 20).2.2, globals := 3, closure := [], defaults := Value.none, kwdefaults := Value.none, pyModule := Value.str (Str.ofString "scheme.binary") 299, code := Value.ref 202 } }
noncomputable def ob204 (_ : Params) : Obj := { cls := Value.type "tuple", data := Data.seq #[] }
noncomputable def ob205 (_ : Params) : Obj := { cls := Value.none, data := Data.fields #[] }
noncomputable def ob206 (_ : Params) : Obj := { cls := Value.type "tuple", data := Data.seq #[Value.str (Str.ofString "one") 447, Value.str (Str.ofString "other") 448, Value.str (Str.ofString "low") 449] }
noncomputable def ob207 (_ : Params) : Obj := { cls := Value.type "tuple", data := Data.seq #[] }
noncomputable def ob208 (_ : Params) : Obj := { cls := Value.none, data := Data.func { name := Str.ofString "compare_magnitudes", qualname := Str.ofString "compare_magnitudes", params := (fdAt 21).1, body := (fdAt 21).2.1, scope := (fdAt 21).2.2, globals := 0, closure := [], defaults := Value.none, kwdefaults := Value.none } }
noncomputable def ob209 (_ : Params) : Obj := { cls := Value.type "code", data := Data.fields #[Value.str (Str.ofString "compare_magnitudes") 444, Value.str (Str.ofString "compare_magnitudes") 445, Value.str (Str.ofString "/claim/cut.py") 446, Value.int 75 0, Value.int 2 0, Value.int 0 0, Value.int 0 0, Value.int 3 0, Value.ref 204, Value.bool Bool.true, Value.int 181 0, Value.ref 205, Value.none, Value.ref 206, Value.ref 207, Value.ref 208, Value.int 450 0, Value.int 75 0, Value.str (Str.ofString "/claim/cut.py") 451] }
noncomputable def ob210 (_ : Params) : Obj := { cls := Value.type "function", data := Data.func { name := Str.ofString "compare_magnitudes", qualname := Str.ofString "compare_magnitudes", params := (fdAt 21).1, body := (fdAt 21).2.1, scope := (fdAt 21).2.2, globals := 3, closure := [], defaults := Value.none, kwdefaults := Value.none, pyModule := Value.str (Str.ofString "scheme.binary") 299, code := Value.ref 209 } }
noncomputable def ob211 (_ : Params) : Obj := { cls := Value.type "tuple", data := Data.seq #[] }
noncomputable def ob212 (_ : Params) : Obj := { cls := Value.none, data := Data.fields #[] }
noncomputable def ob213 (_ : Params) : Obj := { cls := Value.type "tuple", data := Data.seq #[Value.str (Str.ofString "one") 456, Value.str (Str.ofString "other") 457] }
noncomputable def ob214 (_ : Params) : Obj := { cls := Value.type "tuple", data := Data.seq #[] }
noncomputable def ob215 (_ : Params) : Obj := { cls := Value.none, data := Data.func { name := Str.ofString "compare_reals", qualname := Str.ofString "compare_reals", params := (fdAt 22).1, body := (fdAt 22).2.1, scope := (fdAt 22).2.2, globals := 0, closure := [], defaults := Value.none, kwdefaults := Value.none } }
noncomputable def ob216 (_ : Params) : Obj := { cls := Value.type "code", data := Data.fields #[Value.str (Str.ofString "compare_reals") 453, Value.str (Str.ofString "compare_reals") 454, Value.str (Str.ofString "/claim/cut.py") 455, Value.int 80 0, Value.int 2 0, Value.int 0 0, Value.int 0 0, Value.int 3 0, Value.ref 211, Value.bool Bool.true, Value.int 181 0, Value.ref 212, Value.none, Value.ref 213, Value.ref 214, Value.ref 215, Value.int 458 0, Value.int 80 0, Value.str (Str.ofString "/claim/cut.py") 459] }
noncomputable def ob217 (_ : Params) : Obj := { cls := Value.type "function", data := Data.func { name := Str.ofString "compare_reals", qualname := Str.ofString "compare_reals", params := (fdAt 22).1, body := (fdAt 22).2.1, scope := (fdAt 22).2.2, globals := 3, closure := [], defaults := Value.none, kwdefaults := Value.none, pyModule := Value.str (Str.ofString "scheme.binary") 299, code := Value.ref 216 } }
noncomputable def ob218 (_ : Params) : Obj := { cls := Value.type "tuple", data := Data.seq #[] }
noncomputable def ob219 (_ : Params) : Obj := { cls := Value.none, data := Data.fields #[] }
noncomputable def ob220 (_ : Params) : Obj := { cls := Value.type "tuple", data := Data.seq #[Value.str (Str.ofString "precision") 464, Value.str (Str.ofString "great") 465, Value.str (Str.ofString "small") 466, Value.str (Str.ofString "shift") 467] }
noncomputable def ob221 (_ : Params) : Obj := { cls := Value.type "tuple", data := Data.seq #[] }
noncomputable def ob222 (_ : Params) : Obj := { cls := Value.none, data := Data.func { name := Str.ofString "far_sum", qualname := Str.ofString "far_sum", params := (fdAt 23).1, body := (fdAt 23).2.1, scope := (fdAt 23).2.2, globals := 0, closure := [], defaults := Value.none, kwdefaults := Value.none } }
noncomputable def ob223 (_ : Params) : Obj := { cls := Value.type "code", data := Data.fields #[Value.str (Str.ofString "far_sum") 461, Value.str (Str.ofString "far_sum") 462, Value.str (Str.ofString "/claim/cut.py") 463, Value.int 86 0, Value.int 3 0, Value.int 0 0, Value.int 0 0, Value.int 3 0, Value.ref 218, Value.bool Bool.true, Value.int 181 0, Value.ref 219, Value.none, Value.ref 220, Value.ref 221, Value.ref 222, Value.int 468 0, Value.int 86 0, Value.str (Str.ofString "/claim/cut.py") 469] }
noncomputable def ob224 (_ : Params) : Obj := { cls := Value.type "function", data := Data.func { name := Str.ofString "far_sum", qualname := Str.ofString "far_sum", params := (fdAt 23).1, body := (fdAt 23).2.1, scope := (fdAt 23).2.2, globals := 3, closure := [], defaults := Value.none, kwdefaults := Value.none, pyModule := Value.str (Str.ofString "scheme.binary") 299, code := Value.ref 223 } }
noncomputable def ob225 (_ : Params) : Obj := { cls := Value.type "tuple", data := Data.seq #[] }
noncomputable def ob226 (_ : Params) : Obj := { cls := Value.none, data := Data.fields #[] }
noncomputable def ob227 (_ : Params) : Obj := { cls := Value.type "tuple", data := Data.seq #[Value.str (Str.ofString "precision") 474, Value.str (Str.ofString "one") 475, Value.str (Str.ofString "other") 476, Value.str (Str.ofString "great") 477, Value.str (Str.ofString "small") 478, Value.str (Str.ofString "last") 479, Value.str (Str.ofString "low") 480, Value.str (Str.ofString "total") 481] }
noncomputable def ob228 (_ : Params) : Obj := { cls := Value.type "tuple", data := Data.seq #[] }
noncomputable def ob229 (_ : Params) : Obj := { cls := Value.none, data := Data.func { name := Str.ofString "add_reals", qualname := Str.ofString "add_reals", params := (fdAt 24).1, body := (fdAt 24).2.1, scope := (fdAt 24).2.2, globals := 0, closure := [], defaults := Value.none, kwdefaults := Value.none } }
noncomputable def ob230 (_ : Params) : Obj := { cls := Value.type "code", data := Data.fields #[Value.str (Str.ofString "add_reals") 471, Value.str (Str.ofString "add_reals") 472, Value.str (Str.ofString "/claim/cut.py") 473, Value.int 89 0, Value.int 3 0, Value.int 0 0, Value.int 0 0, Value.int 3 0, Value.ref 225, Value.bool Bool.true, Value.int 181 0, Value.ref 226, Value.none, Value.ref 227, Value.ref 228, Value.ref 229, Value.int 482 0, Value.int 89 0, Value.str (Str.ofString "/claim/cut.py") 483] }
noncomputable def ob231 (_ : Params) : Obj := { cls := Value.type "function", data := Data.func { name := Str.ofString "add_reals", qualname := Str.ofString "add_reals", params := (fdAt 24).1, body := (fdAt 24).2.1, scope := (fdAt 24).2.2, globals := 3, closure := [], defaults := Value.none, kwdefaults := Value.none, pyModule := Value.str (Str.ofString "scheme.binary") 299, code := Value.ref 230 } }
noncomputable def ob232 (_ : Params) : Obj := { cls := Value.type "tuple", data := Data.seq #[] }
noncomputable def ob233 (_ : Params) : Obj := { cls := Value.none, data := Data.fields #[] }
noncomputable def ob234 (_ : Params) : Obj := { cls := Value.type "tuple", data := Data.seq #[Value.str (Str.ofString "precision") 488, Value.str (Str.ofString "one") 489, Value.str (Str.ofString "other") 490] }
noncomputable def ob235 (_ : Params) : Obj := { cls := Value.type "tuple", data := Data.seq #[] }
noncomputable def ob236 (_ : Params) : Obj := { cls := Value.none, data := Data.func { name := Str.ofString "subtract_reals", qualname := Str.ofString "subtract_reals", params := (fdAt 25).1, body := (fdAt 25).2.1, scope := (fdAt 25).2.2, globals := 0, closure := [], defaults := Value.none, kwdefaults := Value.none } }
noncomputable def ob237 (_ : Params) : Obj := { cls := Value.type "code", data := Data.fields #[Value.str (Str.ofString "subtract_reals") 485, Value.str (Str.ofString "subtract_reals") 486, Value.str (Str.ofString "/claim/cut.py") 487, Value.int 99 0, Value.int 3 0, Value.int 0 0, Value.int 0 0, Value.int 3 0, Value.ref 232, Value.bool Bool.true, Value.int 181 0, Value.ref 233, Value.none, Value.ref 234, Value.ref 235, Value.ref 236, Value.int 491 0, Value.int 99 0, Value.str (Str.ofString "/claim/cut.py") 492] }
noncomputable def ob238 (_ : Params) : Obj := { cls := Value.type "function", data := Data.func { name := Str.ofString "subtract_reals", qualname := Str.ofString "subtract_reals", params := (fdAt 25).1, body := (fdAt 25).2.1, scope := (fdAt 25).2.2, globals := 3, closure := [], defaults := Value.none, kwdefaults := Value.none, pyModule := Value.str (Str.ofString "scheme.binary") 299, code := Value.ref 237 } }
noncomputable def ob239 (_ : Params) : Obj := { cls := Value.type "tuple", data := Data.seq #[] }
noncomputable def ob240 (_ : Params) : Obj := { cls := Value.none, data := Data.fields #[] }
noncomputable def ob241 (_ : Params) : Obj := { cls := Value.type "tuple", data := Data.seq #[Value.str (Str.ofString "precision") 497, Value.str (Str.ofString "one") 498, Value.str (Str.ofString "other") 499] }
noncomputable def ob242 (_ : Params) : Obj := { cls := Value.type "tuple", data := Data.seq #[] }
noncomputable def ob243 (_ : Params) : Obj := { cls := Value.none, data := Data.func { name := Str.ofString "multiply_reals", qualname := Str.ofString "multiply_reals", params := (fdAt 26).1, body := (fdAt 26).2.1, scope := (fdAt 26).2.2, globals := 0, closure := [], defaults := Value.none, kwdefaults := Value.none } }
noncomputable def ob244 (_ : Params) : Obj := { cls := Value.type "code", data := Data.fields #[Value.str (Str.ofString "multiply_reals") 494, Value.str (Str.ofString "multiply_reals") 495, Value.str (Str.ofString "/claim/cut.py") 496, Value.int 101 0, Value.int 3 0, Value.int 0 0, Value.int 0 0, Value.int 3 0, Value.ref 239, Value.bool Bool.true, Value.int 181 0, Value.ref 240, Value.none, Value.ref 241, Value.ref 242, Value.ref 243, Value.int 500 0, Value.int 101 0, Value.str (Str.ofString "/claim/cut.py") 501] }
noncomputable def ob245 (_ : Params) : Obj := { cls := Value.type "function", data := Data.func { name := Str.ofString "multiply_reals", qualname := Str.ofString "multiply_reals", params := (fdAt 26).1, body := (fdAt 26).2.1, scope := (fdAt 26).2.2, globals := 3, closure := [], defaults := Value.none, kwdefaults := Value.none, pyModule := Value.str (Str.ofString "scheme.binary") 299, code := Value.ref 244 } }
noncomputable def ob246 (_ : Params) : Obj := { cls := Value.type "tuple", data := Data.seq #[] }
noncomputable def ob247 (_ : Params) : Obj := { cls := Value.none, data := Data.fields #[] }
noncomputable def ob248 (_ : Params) : Obj := { cls := Value.type "tuple", data := Data.seq #[Value.str (Str.ofString "precision") 506, Value.str (Str.ofString "one") 507, Value.str (Str.ofString "other") 508, Value.str (Str.ofString "found") 509] }
noncomputable def ob249 (_ : Params) : Obj := { cls := Value.type "tuple", data := Data.seq #[] }
noncomputable def ob250 (_ : Params) : Obj := { cls := Value.none, data := Data.func { name := Str.ofString "divide_reals", qualname := Str.ofString "divide_reals", params := (fdAt 27).1, body := (fdAt 27).2.1, scope := (fdAt 27).2.2, globals := 0, closure := [], defaults := Value.none, kwdefaults := Value.none } }
noncomputable def ob251 (_ : Params) : Obj := { cls := Value.type "code", data := Data.fields #[Value.str (Str.ofString "divide_reals") 503, Value.str (Str.ofString "divide_reals") 504, Value.str (Str.ofString "/claim/cut.py") 505, Value.int 103 0, Value.int 3 0, Value.int 0 0, Value.int 0 0, Value.int 3 0, Value.ref 246, Value.bool Bool.true, Value.int 181 0, Value.ref 247, Value.none, Value.ref 248, Value.ref 249, Value.ref 250, Value.int 510 0, Value.int 103 0, Value.str (Str.ofString "/claim/cut.py") 511] }
noncomputable def ob252 (_ : Params) : Obj := { cls := Value.type "function", data := Data.func { name := Str.ofString "divide_reals", qualname := Str.ofString "divide_reals", params := (fdAt 27).1, body := (fdAt 27).2.1, scope := (fdAt 27).2.2, globals := 3, closure := [], defaults := Value.none, kwdefaults := Value.none, pyModule := Value.str (Str.ofString "scheme.binary") 299, code := Value.ref 251 } }
noncomputable def ob253 (_ : Params) : Obj := { cls := Value.type "tuple", data := Data.seq #[] }
noncomputable def ob254 (_ : Params) : Obj := { cls := Value.none, data := Data.fields #[] }
noncomputable def ob255 (_ : Params) : Obj := { cls := Value.type "tuple", data := Data.seq #[Value.str (Str.ofString "number") 516, Value.str (Str.ofString "found") 517, Value.str (Str.ofString "better") 518] }
noncomputable def ob256 (_ : Params) : Obj := { cls := Value.type "tuple", data := Data.seq #[] }
noncomputable def ob257 (_ : Params) : Obj := { cls := Value.none, data := Data.func { name := Str.ofString "root_below", qualname := Str.ofString "root_below", params := (fdAt 28).1, body := (fdAt 28).2.1, scope := (fdAt 28).2.2, globals := 0, closure := [], defaults := Value.none, kwdefaults := Value.none } }
noncomputable def ob258 (_ : Params) : Obj := { cls := Value.type "code", data := Data.fields #[Value.str (Str.ofString "root_below") 513, Value.str (Str.ofString "root_below") 514, Value.str (Str.ofString "/claim/cut.py") 515, Value.int 108 0, Value.int 1 0, Value.int 0 0, Value.int 0 0, Value.int 3 0, Value.ref 253, Value.bool Bool.true, Value.int 181 0, Value.ref 254, Value.none, Value.ref 255, Value.ref 256, Value.ref 257, Value.int 519 0, Value.int 108 0, Value.str (Str.ofString "/claim/cut.py") 520] }
noncomputable def ob259 (_ : Params) : Obj := { cls := Value.type "function", data := Data.func { name := Str.ofString "root_below", qualname := Str.ofString "root_below", params := (fdAt 28).1, body := (fdAt 28).2.1, scope := (fdAt 28).2.2, globals := 3, closure := [], defaults := Value.none, kwdefaults := Value.none, pyModule := Value.str (Str.ofString "scheme.binary") 299, code := Value.ref 258 } }
noncomputable def ob260 (_ : Params) : Obj := { cls := Value.type "tuple", data := Data.seq #[] }
noncomputable def ob261 (_ : Params) : Obj := { cls := Value.none, data := Data.fields #[] }
noncomputable def ob262 (_ : Params) : Obj := { cls := Value.type "tuple", data := Data.seq #[Value.str (Str.ofString "precision") 525, Value.str (Str.ofString "real") 526, Value.str (Str.ofString "shift") 527, Value.str (Str.ofString "number") 528, Value.str (Str.ofString "found") 529] }
noncomputable def ob263 (_ : Params) : Obj := { cls := Value.type "tuple", data := Data.seq #[] }
noncomputable def ob264 (_ : Params) : Obj := { cls := Value.none, data := Data.func { name := Str.ofString "sqrt_real", qualname := Str.ofString "sqrt_real", params := (fdAt 29).1, body := (fdAt 29).2.1, scope := (fdAt 29).2.2, globals := 0, closure := [], defaults := Value.none, kwdefaults := Value.none } }
noncomputable def ob265 (_ : Params) : Obj := { cls := Value.type "code", data := Data.fields #[Value.str (Str.ofString "sqrt_real") 522, Value.str (Str.ofString "sqrt_real") 523, Value.str (Str.ofString "/claim/cut.py") 524, Value.int 117 0, Value.int 2 0, Value.int 0 0, Value.int 0 0, Value.int 3 0, Value.ref 260, Value.bool Bool.true, Value.int 181 0, Value.ref 261, Value.none, Value.ref 262, Value.ref 263, Value.ref 264, Value.int 530 0, Value.int 117 0, Value.str (Str.ofString "/claim/cut.py") 531] }
noncomputable def ob266 (_ : Params) : Obj := { cls := Value.type "function", data := Data.func { name := Str.ofString "sqrt_real", qualname := Str.ofString "sqrt_real", params := (fdAt 29).1, body := (fdAt 29).2.1, scope := (fdAt 29).2.2, globals := 3, closure := [], defaults := Value.none, kwdefaults := Value.none, pyModule := Value.str (Str.ofString "scheme.binary") 299, code := Value.ref 265 } }
noncomputable def ob267 (_ : Params) : Obj := { cls := Value.type "tuple", data := Data.seq #[] }
noncomputable def ob268 (_ : Params) : Obj := { cls := Value.none, data := Data.fields #[] }
noncomputable def ob269 (_ : Params) : Obj := { cls := Value.type "tuple", data := Data.seq #[Value.str (Str.ofString "well") 538, Value.str (Str.ofString "many") 539] }
noncomputable def ob270 (_ : Params) : Obj := { cls := Value.type "tuple", data := Data.seq #[] }
noncomputable def ob271 (_ : Params) : Obj := { cls := Value.none, data := Data.func { name := Str.ofString "_law_drawn", qualname := Str.ofString "_law_drawn", params := (fdAt 31).1, body := (fdAt 31).2.1, scope := (fdAt 31).2.2, globals := 0, closure := [], defaults := Value.none, kwdefaults := Value.none } }
noncomputable def ob272 (_ : Params) : Obj := { cls := Value.type "code", data := Data.fields #[Value.str (Str.ofString "_law_drawn") 535, Value.str (Str.ofString "_law_drawn") 536, Value.str (Str.ofString "/claim/cut.py") 537, Value.int 128 0, Value.int 2 0, Value.int 0 0, Value.int 0 0, Value.int 3 0, Value.ref 267, Value.bool Bool.true, Value.int 181 0, Value.ref 268, Value.none, Value.ref 269, Value.ref 270, Value.ref 271, Value.int 540 0, Value.int 128 0, Value.str (Str.ofString "/claim/cut.py") 541] }
noncomputable def ob273 (_ : Params) : Obj := { cls := Value.type "function", data := Data.func { name := Str.ofString "_law_drawn", qualname := Str.ofString "_law_drawn", params := (fdAt 31).1, body := (fdAt 31).2.1, scope := (fdAt 31).2.2, globals := 3, closure := [], defaults := Value.none, kwdefaults := Value.none, pyModule := Value.str (Str.ofString "law_pq1015_01") 533, code := Value.ref 272 } }
noncomputable def ob274 (_ : Params) : Obj := { cls := Value.type "tuple", data := Data.seq #[] }
noncomputable def ob275 (_ : Params) : Obj := { cls := Value.none, data := Data.fields #[] }
noncomputable def ob276 (_ : Params) : Obj := { cls := Value.type "tuple", data := Data.seq #[Value.str (Str.ofString "well") 546, Value.str (Str.ofString "bits") 547] }
noncomputable def ob277 (_ : Params) : Obj := { cls := Value.type "tuple", data := Data.seq #[] }
noncomputable def ob278 (_ : Params) : Obj := { cls := Value.none, data := Data.func { name := Str.ofString "_law_real", qualname := Str.ofString "_law_real", params := (fdAt 32).1, body := (fdAt 32).2.1, scope := (fdAt 32).2.2, globals := 0, closure := [], defaults := Value.none, kwdefaults := Value.none } }
noncomputable def ob279 (_ : Params) : Obj := { cls := Value.type "code", data := Data.fields #[Value.str (Str.ofString "_law_real") 543, Value.str (Str.ofString "_law_real") 544, Value.str (Str.ofString "/claim/cut.py") 545, Value.int 133 0, Value.int 2 0, Value.int 0 0, Value.int 0 0, Value.int 3 0, Value.ref 274, Value.bool Bool.true, Value.int 181 0, Value.ref 275, Value.none, Value.ref 276, Value.ref 277, Value.ref 278, Value.int 548 0, Value.int 133 0, Value.str (Str.ofString "/claim/cut.py") 549] }
noncomputable def ob280 (_ : Params) : Obj := { cls := Value.type "function", data := Data.func { name := Str.ofString "_law_real", qualname := Str.ofString "_law_real", params := (fdAt 32).1, body := (fdAt 32).2.1, scope := (fdAt 32).2.2, globals := 3, closure := [], defaults := Value.none, kwdefaults := Value.none, pyModule := Value.str (Str.ofString "law_pq1015_01") 533, code := Value.ref 279 } }
noncomputable def ob281 (_ : Params) : Obj := { cls := Value.type "tuple", data := Data.seq #[] }
noncomputable def ob282 (_ : Params) : Obj := { cls := Value.none, data := Data.fields #[] }
noncomputable def ob283 (_ : Params) : Obj := { cls := Value.type "tuple", data := Data.seq #[Value.str (Str.ofString "number") 554, Value.str (Str.ofString "low") 555] }
noncomputable def ob284 (_ : Params) : Obj := { cls := Value.type "tuple", data := Data.seq #[] }
noncomputable def ob285 (_ : Params) : Obj := { cls := Value.none, data := Data.func { name := Str.ofString "_law_at", qualname := Str.ofString "_law_at", params := (fdAt 33).1, body := (fdAt 33).2.1, scope := (fdAt 33).2.2, globals := 0, closure := [], defaults := Value.none, kwdefaults := Value.none } }
noncomputable def ob286 (_ : Params) : Obj := { cls := Value.type "code", data := Data.fields #[Value.str (Str.ofString "_law_at") 551, Value.str (Str.ofString "_law_at") 552, Value.str (Str.ofString "/claim/cut.py") 553, Value.int 135 0, Value.int 2 0, Value.int 0 0, Value.int 0 0, Value.int 3 0, Value.ref 281, Value.bool Bool.true, Value.int 181 0, Value.ref 282, Value.none, Value.ref 283, Value.ref 284, Value.ref 285, Value.int 556 0, Value.int 135 0, Value.str (Str.ofString "/claim/cut.py") 557] }
noncomputable def ob287 (_ : Params) : Obj := { cls := Value.type "function", data := Data.func { name := Str.ofString "_law_at", qualname := Str.ofString "_law_at", params := (fdAt 33).1, body := (fdAt 33).2.1, scope := (fdAt 33).2.2, globals := 3, closure := [], defaults := Value.none, kwdefaults := Value.none, pyModule := Value.str (Str.ofString "law_pq1015_01") 533, code := Value.ref 286 } }
noncomputable def ob288 (_ : Params) : Obj := { cls := Value.type "tuple", data := Data.seq #[] }
noncomputable def ob289 (_ : Params) : Obj := { cls := Value.none, data := Data.fields #[] }
noncomputable def ob290 (_ : Params) : Obj := { cls := Value.none, data := Data.func { name := Str.ofString "_law_is_ordered", qualname := Str.ofString "_law_is_ordered", params := (fdAt 34).1, body := (fdAt 34).2.1, scope := (fdAt 34).2.2, globals := 0, closure := [], defaults := Value.none, kwdefaults := Value.none } }
noncomputable def ob291 (_ : Params) : Obj := { cls := Value.type "code", data := Data.fields #[Value.str (Str.ofString "_law_is_ordered") 559, Value.str (Str.ofString "_law_is_ordered") 560, Value.str (Str.ofString "/claim/cut.py") 561, Value.int 137 0, Value.int 4 0, Value.int 0 0, Value.int 0 0, Value.int 3 0, Value.ref 288, Value.bool Bool.true, Value.int 181 0, Value.ref 289, Value.none, Value.none, Value.none, Value.ref 290, Value.int 562 0, Value.int 137 0, Value.str (Str.ofString "/claim/cut.py") 563] }
noncomputable def ob292 (_ : Params) : Obj := { cls := Value.type "function", data := Data.func { name := Str.ofString "_law_is_ordered", qualname := Str.ofString "_law_is_ordered", params := (fdAt 34).1, body := (fdAt 34).2.1, scope := (fdAt 34).2.2, globals := 3, closure := [], defaults := Value.none, kwdefaults := Value.none, pyModule := Value.str (Str.ofString "law_pq1015_01") 533, code := Value.ref 291 } }
noncomputable def ob293 (_ : Params) : Obj := { cls := Value.type "tuple", data := Data.seq #[] }
noncomputable def ob294 (_ : Params) : Obj := { cls := Value.none, data := Data.fields #[] }
noncomputable def ob295 (_ : Params) : Obj := { cls := Value.none, data := Data.func { name := Str.ofString "_law_is_even", qualname := Str.ofString "_law_is_even", params := (fdAt 35).1, body := (fdAt 35).2.1, scope := (fdAt 35).2.2, globals := 0, closure := [], defaults := Value.none, kwdefaults := Value.none } }
noncomputable def ob296 (_ : Params) : Obj := { cls := Value.type "code", data := Data.fields #[Value.str (Str.ofString "_law_is_even") 565, Value.str (Str.ofString "_law_is_even") 566, Value.str (Str.ofString "/claim/cut.py") 567, Value.int 149 0, Value.int 3 0, Value.int 0 0, Value.int 0 0, Value.int 3 0, Value.ref 293, Value.bool Bool.true, Value.int 181 0, Value.ref 294, Value.none, Value.none, Value.none, Value.ref 295, Value.int 568 0, Value.int 149 0, Value.str (Str.ofString "/claim/cut.py") 569] }
noncomputable def ob297 (_ : Params) : Obj := { cls := Value.type "function", data := Data.func { name := Str.ofString "_law_is_even", qualname := Str.ofString "_law_is_even", params := (fdAt 35).1, body := (fdAt 35).2.1, scope := (fdAt 35).2.2, globals := 3, closure := [], defaults := Value.none, kwdefaults := Value.none, pyModule := Value.str (Str.ofString "law_pq1015_01") 533, code := Value.ref 296 } }
noncomputable def ob298 (_ : Params) : Obj := { cls := Value.type "tuple", data := Data.seq #[] }
noncomputable def ob299 (_ : Params) : Obj := { cls := Value.none, data := Data.fields #[] }
noncomputable def ob300 (_ : Params) : Obj := { cls := Value.type "tuple", data := Data.seq #[Value.str (Str.ofString "bits") 574, Value.str (Str.ofString "x") 575, Value.str (Str.ofString "y") 576, Value.str (Str.ofString "one") 577, Value.str (Str.ofString "other") 578, Value.str (Str.ofString "great") 579, Value.str (Str.ofString "small") 580, Value.str (Str.ofString "total") 581, Value.str (Str.ofString "lost") 582] }
noncomputable def ob301 (_ : Params) : Obj := { cls := Value.type "tuple", data := Data.seq #[] }
noncomputable def ob302 (_ : Params) : Obj := { cls := Value.none, data := Data.func { name := Str.ofString "_law_is_exact", qualname := Str.ofString "_law_is_exact", params := (fdAt 36).1, body := (fdAt 36).2.1, scope := (fdAt 36).2.2, globals := 0, closure := [], defaults := Value.none, kwdefaults := Value.none } }
noncomputable def ob303 (_ : Params) : Obj := { cls := Value.type "code", data := Data.fields #[Value.str (Str.ofString "_law_is_exact") 571, Value.str (Str.ofString "_law_is_exact") 572, Value.str (Str.ofString "/claim/cut.py") 573, Value.int 163 0, Value.int 3 0, Value.int 0 0, Value.int 0 0, Value.int 3 0, Value.ref 298, Value.bool Bool.true, Value.int 181 0, Value.ref 299, Value.none, Value.ref 300, Value.ref 301, Value.ref 302, Value.int 583 0, Value.int 163 0, Value.str (Str.ofString "/claim/cut.py") 584] }
noncomputable def ob304 (_ : Params) : Obj := { cls := Value.type "function", data := Data.func { name := Str.ofString "_law_is_exact", qualname := Str.ofString "_law_is_exact", params := (fdAt 36).1, body := (fdAt 36).2.1, scope := (fdAt 36).2.2, globals := 3, closure := [], defaults := Value.none, kwdefaults := Value.none, pyModule := Value.str (Str.ofString "law_pq1015_01") 533, code := Value.ref 303 } }
noncomputable def ob305 (_ : Params) : Obj := { cls := Value.type "tuple", data := Data.seq #[] }
noncomputable def ob306 (_ : Params) : Obj := { cls := Value.none, data := Data.fields #[] }
noncomputable def ob307 (_ : Params) : Obj := { cls := Value.none, data := Data.func { name := Str.ofString "law", qualname := Str.ofString "law", params := (fdAt 37).1, body := (fdAt 37).2.1, scope := (fdAt 37).2.2, globals := 0, closure := [], defaults := Value.none, kwdefaults := Value.none } }
noncomputable def ob308 (_ : Params) : Obj := { cls := Value.type "code", data := Data.fields #[Value.str (Str.ofString "law") 586, Value.str (Str.ofString "law") 587, Value.str (Str.ofString "/claim/cut.py") 588, Value.int 172 0, Value.int 1 0, Value.int 0 0, Value.int 0 0, Value.int 3 0, Value.ref 305, Value.bool Bool.true, Value.int 181 0, Value.ref 306, Value.none, Value.none, Value.none, Value.ref 307, Value.int 589 0, Value.int 172 0, Value.str (Str.ofString "/claim/cut.py") 590] }
noncomputable def ob309 (_ : Params) : Obj := { cls := Value.type "function", data := Data.func { name := Str.ofString "law", qualname := Str.ofString "law", params := (fdAt 37).1, body := (fdAt 37).2.1, scope := (fdAt 37).2.2, globals := 3, closure := [], defaults := Value.none, kwdefaults := Value.none, pyModule := Value.str (Str.ofString "law_pq1015_01") 533, code := Value.ref 308 } }
noncomputable def hM1 (P : Params) : Heap := { objs := Array.mk [boot_o_0 P, boot_o_1 P, ob2 P, ob3' P, boot_o_4 P, boot_o_5 P, boot_o_6 P, boot_o_7 P, boot_o_8 P, boot_o_9 P, boot_o_10 P, ob11 P, ob12'' P, ob13 P, ob14 P, ob15 P, ob16 P, ob17 P, ob18 P, ob19 P, ob20 P, ob21 P, ob22 P, ob23 P, ob24 P, ob25 P, ob26 P, ob27 P, ob28 P, ob29 P, ob30 P, ob31 P, ob32 P, ob33 P, ob34 P, ob35 P, ob36 P, ob37 P, ob38 P, ob39 P, ob40 P, ob41 P, ob42 P, ob43 P, ob44 P, ob45 P, ob46 P, ob47 P, ob48 P, ob49 P, ob50 P, ob51 P, ob52 P, ob53 P, ob54 P, ob55 P, ob56 P, ob57 P, ob58 P, ob59 P, ob60 P, ob61 P, ob62 P, ob63 P, ob64 P, ob65 P, ob66 P, ob67 P, ob68 P, ob69 P, ob70 P, ob71 P, ob72 P, ob73 P, ob74 P, ob75 P, ob76 P, ob77 P, ob78 P, ob79 P, ob80 P, ob81 P, ob82 P, ob83 P, ob84 P, ob85 P, ob86 P, ob87 P, ob88 P, ob89 P, ob90 P, ob91 P, ob92 P, ob93 P, ob94 P, ob95 P, ob96 P, ob97 P, ob98 P, ob99 P, ob100 P, ob101 P, ob102 P, ob103 P, ob104 P, ob105 P, ob106 P, ob107 P, ob108 P, ob109 P, ob110 P, ob111 P, ob112 P, ob113 P, ob114 P, ob115 P, ob116 P, ob117 P, ob118 P, ob119 P, ob120 P, ob121 P, ob122 P, ob123 P, ob124 P, ob125 P, ob126 P, ob127 P, ob128 P, ob129 P, ob130 P, ob131 P, ob132 P, ob133 P, ob134 P, ob135 P, ob136 P, ob137 P, ob138 P, ob139 P, ob140 P, ob141 P, ob142 P, ob143 P, ob144 P, ob145 P, ob146 P, ob147 P, ob148 P, ob149 P, ob150 P, ob151 P, ob152 P, ob153 P, ob154 P, ob155 P, ob156 P, ob157 P, ob158 P, ob159 P, ob160 P, ob161 P, ob162 P, ob163 P, ob164 P, ob165 P, ob166 P, ob167 P, ob168 P, ob169 P, ob170 P, ob171 P, ob172 P, ob173 P, ob174 P, ob175 P, ob176 P, ob177 P, ob178 P, ob179 P, ob180 P, ob181 P, ob182 P, ob183 P, ob184 P, ob185 P, ob186 P, ob187 P, ob188 P, ob189 P, ob190 P, ob191 P, ob192 P, ob193 P, ob194 P, ob195 P, ob196 P, ob197 P, ob198 P, ob199 P, ob200 P, ob201 P, ob202 P, ob203 P, ob204 P, ob205 P, ob206 P, ob207 P, ob208 P, ob209 P, ob210 P, ob211 P, ob212 P, ob213 P, ob214 P, ob215 P, ob216 P, ob217 P, ob218 P, ob219 P, ob220 P, ob221 P, ob222 P, ob223 P, ob224 P, ob225 P, ob226 P, ob227 P, ob228 P, ob229 P, ob230 P, ob231 P, ob232 P, ob233 P, ob234 P, ob235 P, ob236 P, ob237 P, ob238 P, ob239 P, ob240 P, ob241 P, ob242 P, ob243 P, ob244 P, ob245 P, ob246 P, ob247 P, ob248 P, ob249 P, ob250 P, ob251 P, ob252 P, ob253 P, ob254 P, ob255 P, ob256 P, ob257 P, ob258 P, ob259 P, ob260 P, ob261 P, ob262 P, ob263 P, ob264 P, ob265 P, ob266 P, ob267 P, ob268 P, ob269 P, ob270 P, ob271 P, ob272 P, ob273 P, ob274 P, ob275 P, ob276 P, ob277 P, ob278 P, ob279 P, ob280 P, ob281 P, ob282 P, ob283 P, ob284 P, ob285 P, ob286 P, ob287 P, ob288 P, ob289 P, ob290 P, ob291 P, ob292 P, ob293 P, ob294 P, ob295 P, ob296 P, ob297 P, ob298 P, ob299 P, ob300 P, ob301 P, ob302 P, ob303 P, ob304 P, ob305 P, ob306 P, ob307 P, ob308 P, ob309 P] }
noncomputable def hFin (P : Params) : Heap := { objs := Array.mk [boot_o_0 P, boot_o_1 P, ob2 P, ob3' P, boot_o_4 P, boot_o_5 P, boot_o_6 P, boot_o_7 P, boot_o_8 P, boot_o_9 P, boot_o_10 P, ob11 P, ob12'' P, ob13 P, ob14 P, ob15 P, ob16 P, ob17 P, ob18 P, ob19 P, ob20 P, ob21 P, ob22 P, ob23 P, ob24 P, ob25 P, ob26 P, ob27 P, ob28 P, ob29 P, ob30 P, ob31 P, ob32 P, ob33 P, ob34 P, ob35 P, ob36 P, ob37 P, ob38 P, ob39 P, ob40 P, ob41 P, ob42 P, ob43 P, ob44 P, ob45 P, ob46 P, ob47 P, ob48 P, ob49 P, ob50 P, ob51 P, ob52 P, ob53 P, ob54 P, ob55 P, ob56 P, ob57 P, ob58 P, ob59 P, ob60 P, ob61 P, ob62 P, ob63 P, ob64 P, ob65 P, ob66 P, ob67 P, ob68 P, ob69 P, ob70 P, ob71 P, ob72 P, ob73 P, ob74 P, ob75 P, ob76 P, ob77 P, ob78 P, ob79 P, ob80 P, ob81 P, ob82 P, ob83 P, ob84 P, ob85 P, ob86 P, ob87 P, ob88 P, ob89 P, ob90 P, ob91 P, ob92 P, ob93 P, ob94 P, ob95 P, ob96 P, ob97 P, ob98 P, ob99 P, ob100 P, ob101 P, ob102 P, ob103 P, ob104 P, ob105 P, ob106 P, ob107 P, ob108 P, ob109 P, ob110 P, ob111 P, ob112 P, ob113 P, ob114 P, ob115 P, ob116 P, ob117 P, ob118 P, ob119 P, ob120 P, ob121 P, ob122 P, ob123 P, ob124 P, ob125 P, ob126 P, ob127 P, ob128 P, ob129 P, ob130 P, ob131 P, ob132 P, ob133 P, ob134 P, ob135 P, ob136 P, ob137 P, ob138 P, ob139 P, ob140 P, ob141 P, ob142 P, ob143 P, ob144 P, ob145 P, ob146 P, ob147 P, ob148 P, ob149 P, ob150 P, ob151 P, ob152 P, ob153 P, ob154 P, ob155 P, ob156 P, ob157 P, ob158 P, ob159 P, ob160 P, ob161 P, ob162 P, ob163 P, ob164 P, ob165 P, ob166 P, ob167 P, ob168 P, ob169 P, ob170 P, ob171 P, ob172 P, ob173 P, ob174 P, ob175 P, ob176 P, ob177 P, ob178 P, ob179 P, ob180 P, ob181 P, ob182 P, ob183 P, ob184 P, ob185 P, ob186 P, ob187 P, ob188 P, ob189 P, ob190 P, ob191 P, ob192 P, ob193 P, ob194 P, ob195 P, ob196 P, ob197 P, ob198 P, ob199 P, ob200 P, ob201 P, ob202 P, ob203 P, ob204 P, ob205 P, ob206 P, ob207 P, ob208 P, ob209 P, ob210 P, ob211 P, ob212 P, ob213 P, ob214 P, ob215 P, ob216 P, ob217 P, ob218 P, ob219 P, ob220 P, ob221 P, ob222 P, ob223 P, ob224 P, ob225 P, ob226 P, ob227 P, ob228 P, ob229 P, ob230 P, ob231 P, ob232 P, ob233 P, ob234 P, ob235 P, ob236 P, ob237 P, ob238 P, ob239 P, ob240 P, ob241 P, ob242 P, ob243 P, ob244 P, ob245 P, ob246 P, ob247 P, ob248 P, ob249 P, ob250 P, ob251 P, ob252 P, ob253 P, ob254 P, ob255 P, ob256 P, ob257 P, ob258 P, ob259 P, ob260 P, ob261 P, ob262 P, ob263 P, ob264 P, ob265 P, ob266 P, ob267 P, ob268 P, ob269 P, ob270 P, ob271 P, ob272 P, ob273 P, ob274 P, ob275 P, ob276 P, ob277 P, ob278 P, ob279 P, ob280 P, ob281 P, ob282 P, ob283 P, ob284 P, ob285 P, ob286 P, ob287 P, ob288 P, ob289 P, ob290 P, ob291 P, ob292 P, ob293 P, ob294 P, ob295 P, ob296 P, ob297 P, ob298 P, ob299 P, ob300 P, ob301 P, ob302 P, ob303 P, ob304 P, ob305 P, ob306 P, ob307 P, ob308 P, ob309 P] }
theorem l_open : ∀ w : World, (fencedOpening treeTable rO.prog w 4368).map (fun s => (s.heap, s.gens, s.drawn, s.toks)) = some (boot_heap w.params, Array.mk [], boot_drawn, boot_toks) := boot_open (by kernel_rfl) (by rfl) (fun s => by kernel_rfl)
theorem l_size (w : World) : ((boot_heap w.params).isNs mainGlobals && (Array.mk [] : Array GenState).size == 0, (boot_heap w.params).objs.size, (boot_heap w.params).nsMap mainGlobals "__annotations__") = (true, 11, annE) := by kernel_rfl
theorem l_pre (w : World) (os : OsState) : topGo treeTable rO.prog w 11 annE 12 ⟨boot_heap w.params, Array.mk [], boot_drawn, boot_toks, os⟩ (topStub rO.prog) = some (⟨hPre w.params, Array.mk [], {}, 187, os⟩, ⟨denote treeTable cE, cE, p0, [topFrame p0]⟩) := by kernel_rfl
theorem l_blk (w : World) (os : OsState) : segRun treeTable rO.prog w 11 annE 1 1 ⟨hPre w.params, Array.mk [], {}, 187, os⟩ (blockOf bE envE cE p0 [topFrame p0]) = some (.next, ⟨hBlk w.params, Array.mk [], {}, 187, os⟩, cE, p0) := by kernel_rfl
theorem l_part0 (w : World) (os : OsState) : segRun treeTable rO.prog w 11 annE 1 1286 ⟨hBlk w.params, Array.mk [], {}, 187, os⟩ (piecesOf (bE.take 8) envE cE p0 [topFrame p0]) = some (.next, ⟨hM0 w.params, Array.mk [], {}, 336, os⟩, cE, ({ line := 26, col := 0, endLine := 30, endCol := 32 } : Pos)) := by kernel_rfl
theorem l_part1 (w : World) (os : OsState) : segRun treeTable rO.prog w 11 annE 1 955 ⟨hM0 w.params, Array.mk [], {}, 336, os⟩ (piecesOf ((bE.drop 8).take 30) envE cE ({ line := 26, col := 0, endLine := 30, endCol := 32 } : Pos) [topFrame p0]) = some (.next, ⟨hM1 w.params, Array.mk [], {}, 592, os⟩, cE, ({ line := 172, col := 0, endLine := 180, endCol := 15 } : Pos)) := by kernel_rfl
theorem l_fin (w : World) (os : OsState) : topRun treeTable rO.prog w 11 annE 20 ⟨hM1 w.params, Array.mk [], {}, 592, os⟩ (restOf ((bE.drop 8).drop 30) envE cE ({ line := 172, col := 0, endLine := 180, endCol := 15 } : Pos) [topFrame p0]) = some ⟨hFin w.params, Array.mk [], {}, 592, os⟩ := by kernel_rfl
theorem piece_take {tb : String → Option Builtin} {p : Program} {w : World} {n₀ : Nat} {ann : Option Value} {env : Env} {q : Pos} {n N k : Nat} {s s' r : Shared} {b : List Stmt} {c : Code} {pos p' : Pos} (h : segRun tb p w n₀ ann 1 n s (piecesOf (b.take k) env c pos [topFrame q]) = some (.next, s', c, p'))
    (r' : topRun tb p w n₀ ann N s' (restOf (b.drop k) env c p' [topFrame q]) = some r) : topRun tb p w n₀ ann (n + N) s (restOf b env c pos [topFrame q]) = some r := by
  have := piece_app h r'
  rwa [List.take_append_drop] at this
theorem l_looks (w : World) : (fun os => ((staticsOk (importedModules rO.prog.main.body) (boot_heap w.params) (hFin w.params) && namesBound rO.prog (hFin w.params) && gensDone ⟨hFin w.params, Array.mk [], {}, 592, os⟩ && laidKept (boot_heap w.params) (hFin w.params)),
    openSeen vw [Str.ofString "REACH"] (importedModules rO.prog.main.body) (fun s => xlAt vw [(Str.ofString "REACH", WData.int 65536)] s && recOk (RowW.records rO.toRowW) s) true ⟨hFin w.params, Array.mk [], {}, 592, os⟩, Hook.obs (kHook hp ads ads_ok) ⟨hFin w.params, Array.mk [], {}, 592, os⟩)) = fun _ => (true, openGood vw [Str.ofString "REACH"], Hook.val (kHook hp ads ads_ok) w) := by kernel_rfl
theorem left : LeftO rO.prog vw [Str.ofString "REACH"] (fun s => xlAt vw [(Str.ofString "REACH", WData.int 65536)] s && recOk (RowW.records rO.toRowW) s) (Hook.obs (kHook hp ads ads_ok)) (Hook.val (kHook hp ads ads_ok)) 4368 := by
  refine LeftO.of_pieces (H₁ := hFin) (gs₁ := Array.mk []) (d₁ := {}) (k₁ := 592) (m₀ := 11) (ann := annE) l_open l_size (fun w os => go_top (l_pre w os) (piece_block (l_blk w os) (piece_take (l_part0 w os) (piece_take (l_part1 w os) (l_fin w os))))) (by rfl) l_looks
theorem hd {d : DefRec} {kwd : List (Str × PySem.Expr)} (hdef : defOf vw rO.name = some (d, kwd)) (hpd : rO.prog.theDef rO.name = some (d.params, d.body, d.scope)) (hk : kwWritten? d.params.kwonlyargs d.params.kw_defaults = some kwd)
    (walk : WalkO vw [Str.ofString "REACH"] (XL vw [(Str.ofString "REACH", WData.int 65536)]) (kHook hp ads ads_ok).says rO.toRowW d kwd fun f vs => PySem.call f vs) : PySem.Challenge.rw_pq1015_01.Holds := by
  w_on
  refine holds_law (l := PySem.Challenge.rw_pq1015_01) (by kernel_rfl) fun said => ?_
  refine holds_open (q := vw) (loose := [Str.ofString "REACH"]) (Xt := fun s => xlAt vw [(Str.ofString "REACH", WData.int 65536)] s && recOk (RowW.records rO.toRowW) s) (XP := XL vw [(Str.ofString "REACH", WData.int 65536)]) (Yf := Hook.obs (kHook hp ads ads_ok)) (Ya := Hook.val (kHook hp ads ads_ok)) (YP := Hook.says (kHook hp ads ads_ok)) (N := 4368) left (Hook.of (kHook hp ads ads_ok)) (Hook.keeps (kHook hp ads ads_ok)) (fun s e => xl_of s (Bool.and_eq_true_iff.mp e).1) XL.keeps hdef hpd hk (fun s e => recFacts_of (Bool.and_eq_true_iff.mp e).2) (by rfl) (by assumption) (by decide +kernel) ⟨rfl, rfl, rfl, rfl, rfl, by decide +kernel⟩ ?hw walk
  case hw => w_witness2
end Mine
set_option linter.unusedSectionVars false
namespace Mine
def sz (n : Int) : Int := ↑(Builtin.Int.intBits (if n < 0 then -n else n))
def sg (n : Int) : Int := b2i (decide (0 < n)) - b2i (decide (n < 0))
def zb (n : Int) : Int := ↑(Builtin.Int.intBits (Builtin.bitAnd n (0 - n))) - 1
def sticky (n : Int) (b : Bool) : Int := 2 * n + (if b then 1 else 0)
def nsh (n g : Int) : Int :=
  if (1 * 2 ^ (g - 1).toNat < Builtin.bitAnd n (1 * 2 ^ g.toNat - 1)) ∨ (Builtin.bitAnd n (1 * 2 ^ g.toNat - 1) = 1 * 2 ^ (g - 1).toNat ∧ Builtin.bitAnd (n.fdiv (2 ^ g.toNat)) 1 = 1) then n.fdiv (2 ^ g.toNat) + 1 else n.fdiv (2 ^ g.toNat)
def leanF (m e : Int) : Int × Int := if m = 0 then (0, 0) else (m.fdiv (2 ^ (zb m).toNat), e + zb m)
def shr (p m e : Int) : Int × Int :=
  if sz m - p ≤ 0 then leanF m e else leanF (sg m * nsh (if m < 0 then -m else m) (sz m - p)) (e + (sz m - p))

def leanOk (m e : Int) : Prop := m ≠ 0 → (-65536 ≤ sz m + e ∧ sz m + e ≤ 65536)
def srOk (p m e : Int) : Prop := 1 ≤ p ∧ p ≤ 64 ∧ sz m ≤ 20000 ∧ -20000 ≤ e ∧ e ≤ 20000

def cmpM (m1 e1 m2 e2 : Int) : Int :=
  if sz m1 + e1 ≠ sz m2 + e2 then (if sz m2 + e2 < sz m1 + e1 then 1 else -1)
  else sg (m1 * 2 ^ (e1 - if e2 < e1 then e2 else e1).toNat - m2 * 2 ^ (e2 - if e2 < e1 then e2 else e1).toNat)
def cmpR (m1 e1 m2 e2 : Int) : Int :=
  if sg m1 ≠ sg m2 then (if sg m2 < sg m1 then 1 else -1)
  else if sg m1 = 0 then 0
  else sg m1 * cmpM (if m1 < 0 then -m1 else m1) e1 (if m2 < 0 then -m2 else m2) e2
def cmpOk (m1 e1 m2 e2 : Int) : Prop := Builtin.Int.intBits m1 ≤ 10000 ∧ Builtin.Int.intBits m2 ≤ 10000 ∧ -10000 ≤ e1 ∧ e1 ≤ 10000 ∧ -10000 ≤ e2 ∧ e2 ≤ 10000
def rOk (m e : Int) : Prop := Builtin.Int.intBits m ≤ 1000 ∧ -1000 ≤ e ∧ e ≤ 1000
def farF (p gm ge sm : Int) : Int × Int :=
  shr p (2 * (gm * 2 ^ (if 0 < p + 3 - sz gm then p + 3 - sz gm else 0).toNat) + sg sm) (ge - (if 0 < p + 3 - sz gm then p + 3 - sz gm else 0) - 1)
def totF (gm ge sm se : Int) : Int := gm * 2 ^ (ge - if se < ge then se else ge).toNat + sm * 2 ^ (se - if se < ge then se else ge).toNat
def addG (p gm ge sm se : Int) : Int × Int :=
  if sz sm + se < (if sz gm + ge - p - 3 < ge then sz gm + ge - p - 3 else ge) then farF p gm ge sm
  else shr p (totF gm ge sm se) (if se < ge then se else ge)
def addF (p m1 e1 m2 e2 : Int) : Int × Int :=
  if sg m1 = 0 ∨ sg m2 = 0 then shr p (m1 + m2) (e1 + e2)
  else if sz m2 + e2 ≤ sz m1 + e1 then addG p m1 e1 m2 e2 else addG p m2 e2 m1 e1
def mulF (p m1 e1 m2 e2 : Int) : Int × Int := shr p (m1 * m2) (e1 + e2)
def rndF (p a b : Int) : Int × Int :=
  if a = 0 then (0, 0)
  else if 0 ≤ p + 2 + sz b - sz a then
    shr p (sg a * sticky (((if a < 0 then -a else a) * 2 ^ (p + 2 + sz b - sz a).toNat).fdiv b) ((((if a < 0 then -a else a) * 2 ^ (p + 2 + sz b - sz a).toNat).fmod b) != 0)) (0 - (p + 2 + sz b - sz a) - 1)
  else shr p (sg a * sticky ((if a < 0 then -a else a).fdiv (b * 2 ^ (0 - (p + 2 + sz b - sz a)).toNat)) (((if a < 0 then -a else a).fmod (b * 2 ^ (0 - (p + 2 + sz b - sz a)).toNat)) != 0)) (0 - (p + 2 + sz b - sz a) - 1)
def divF (p m1 e1 m2 e2 : Int) : Int × Int :=
  leanF (rndF p (m1 * sg m2) (if m2 < 0 then -m2 else m2)).1 ((rndF p (m1 * sg m2) (if m2 < 0 then -m2 else m2)).2 + e1 - e2)
def isqN (n : Nat) : Nat := n.fold (fun i _ r => if (r + 1) * (r + 1) ≤ i + 1 then r + 1 else r) 0
def isq (n : Int) : Int := (isqN n.toNat : Nat)
def sqSh (p m e : Int) : Int := (if 2 * (p + 2) - sz m > 0 then 2 * (p + 2) - sz m else 0) + Builtin.bitAnd (e - (if 2 * (p + 2) - sz m > 0 then 2 * (p + 2) - sz m else 0)) 1
def sqrtF (p m e : Int) : Int × Int :=
  if m = 0 then (m, e) else
  shr p (sticky (isq (m * 2 ^ (sqSh p m e).toNat)) (isq (m * 2 ^ (sqSh p m e).toNat) * isq (m * 2 ^ (sqSh p m e).toNat) != m * 2 ^ (sqSh p m e).toNat)) ((e - sqSh p m e).fdiv 2 - 1)
def pOk (p : Int) : Prop := 1 ≤ p ∧ p ≤ 64
def rndOk (p a b : Int) : Prop := pOk p ∧ 0 < b ∧ Builtin.Int.intBits a ≤ 2000 ∧ Builtin.Int.intBits b ≤ 2000

def RP (n f b : Int) : Prop := 0 < n ∧ 0 < f ∧ isq n ≤ f ∧ Builtin.Int.intBits f ≤ 4000 ∧ Builtin.Int.intBits n ≤ 4000 ∧ b = (f + n.fdiv f).fdiv 2
/-- a number of p bits, in its one form -/
def FL (p m e : Int) : Prop := -40 ≤ e ∧ e ≤ 40 ∧ ((m = 0 ∧ e = 0) ∨ (m % 2 = 1 ∧ m.natAbs < 2 ^ p.toNat))
def FLt (p m e : Int) : Prop := FL p m e ∧ -20 ≤ e ∧ e ≤ 20
def EvOk (m1 e1 m2 e2 : Int) : Prop := m1 = m2 ∧ e1 = e2
abbrev EvP (a b : Int × Int) : Prop := EvOk a.1 a.2 b.1 b.2
def OrdOk (way a1 a2 b1 b2 : Int) : Prop := cmpOk a1 a2 b1 b2 ∧ IntMulOk (cmpR a1 a2 b1 b2) way ∧ ¬ (cmpR a1 a2 b1 b2 * way < 0) ∧ (way = 0 → a1 = b1 ∧ a2 = b2)
abbrev OrdP (way : Int) (a b : Int × Int) : Prop := OrdOk way a.1 a.2 b.1 b.2
def absI (m : Int) : Int := if m < 0 then -m else m
/-- the number at the place -80 -/
abbrev atE (m e : Int) : Int := m * 2 ^ (e - -80).toNat
def TwoOk (p ma ea mb eb : Int) : Prop :=
  rOk (addF p ma ea mb eb).1 (addF p ma ea mb eb).2 ∧ -80 ≤ (addF p ma ea mb eb).2 ∧
  rOk (addF p (addF p ma ea mb eb).1 (addF p ma ea mb eb).2 (0 - ma) ea).1 (addF p (addF p ma ea mb eb).1 (addF p ma ea mb eb).2 (0 - ma) ea).2 ∧
  rOk (addF p mb eb (0 - (addF p (addF p ma ea mb eb).1 (addF p ma ea mb eb).2 (0 - ma) ea).1) (addF p (addF p ma ea mb eb).1 (addF p ma ea mb eb).2 (0 - ma) ea).2).1 (addF p mb eb (0 - (addF p (addF p ma ea mb eb).1 (addF p ma ea mb eb).2 (0 - ma) ea).1) (addF p (addF p ma ea mb eb).1 (addF p ma ea mb eb).2 (0 - ma) ea).2).2 ∧
  -80 ≤ (addF p mb eb (0 - (addF p (addF p ma ea mb eb).1 (addF p ma ea mb eb).2 (0 - ma) ea).1) (addF p (addF p ma ea mb eb).1 (addF p ma ea mb eb).2 (0 - ma) ea).2).2 ∧
  atE (addF p ma ea mb eb).1 (addF p ma ea mb eb).2 + atE (addF p mb eb (0 - (addF p (addF p ma ea mb eb).1 (addF p ma ea mb eb).2 (0 - ma) ea).1) (addF p (addF p ma ea mb eb).1 (addF p ma ea mb eb).2 (0 - ma) ea).2).1 (addF p mb eb (0 - (addF p (addF p ma ea mb eb).1 (addF p ma ea mb eb).2 (0 - ma) ea).1) (addF p (addF p ma ea mb eb).1 (addF p ma ea mb eb).2 (0 - ma) ea).2).2 = atE ma ea + atE mb eb
def szN (n : Nat) : Nat := if n = 0 then 0 else n.log2 + 1
theorem szN_lt (n : Nat) : n < 2 ^ szN n := by
  unfold szN
  split
  · subst_vars; decide
  · exact Nat.lt_log2_self
theorem szN_le {n : Nat} (h : n ≠ 0) : 2 ^ (szN n - 1) ≤ n := by
  unfold szN
  rw [if_neg h, Nat.add_sub_cancel]
  exact Nat.log2_self_le h
theorem szN_pos {n : Nat} (h : n ≠ 0) : 0 < szN n := by unfold szN; rw [if_neg h]; lia
theorem szN_uniq {n k : Nat} (h1 : 2 ^ k ≤ n) (h2 : n < 2 ^ (k + 1)) : szN n = k + 1 := by
  have h0 : n ≠ 0 := by have := Nat.two_pow_pos k; lia
  have a := szN_lt n
  have b := szN_le h0
  have c := szN_pos h0
  have h3 : k < szN n := (Nat.pow_lt_pow_iff_right (by decide : 1 < 2)).mp (Nat.lt_of_le_of_lt h1 a)
  have h4 : szN n - 1 < k + 1 := (Nat.pow_lt_pow_iff_right (by decide : 1 < 2)).mp (Nat.lt_of_le_of_lt b h2)
  lia
theorem szN_mono {n m : Nat} (h : n ≤ m) : szN n ≤ szN m := by
  by_cases h0 : n = 0
  · subst h0; exact Nat.zero_le _
  · have a := szN_le h0
    have b := szN_lt m
    have h3 : szN n - 1 < szN m := (Nat.pow_lt_pow_iff_right (by decide : 1 < 2)).mp (Nat.lt_of_le_of_lt (Nat.le_trans a h) b)
    lia
theorem szN_mul {n : Nat} (h : n ≠ 0) (k : Nat) : szN (n * 2 ^ k) = szN n + k := by
  have a := szN_lt n
  have b := szN_le h
  have c := szN_pos h
  have h1 : 2 ^ (szN n - 1 + k) ≤ n * 2 ^ k := by rw [Nat.pow_add]; exact Nat.mul_le_mul_right _ b
  have h2 : n * 2 ^ k < 2 ^ (szN n - 1 + k + 1) := by
    have e : szN n - 1 + k + 1 = szN n + k := by lia
    rw [e, Nat.pow_add]
    exact Nat.mul_lt_mul_of_pos_right a (Nat.two_pow_pos k)
  have := szN_uniq h1 h2
  lia
/-- n over 2^g, to the nearest, a tie to the even -/
def rdg (g n : Nat) : Nat := if 2 ^ g < 2 * (n % 2 ^ g) ∨ (2 * (n % 2 ^ g) = 2 ^ g ∧ n / 2 ^ g % 2 = 1) then n / 2 ^ g + 1 else n / 2 ^ g
def rn (p n : Nat) : Nat := rdg (szN n - p) n * 2 ^ (szN n - p)
theorem rdg_ge (g n : Nat) : n / 2 ^ g ≤ rdg g n := by unfold rdg; split <;> lia
theorem rdg_le (g n : Nat) : rdg g n ≤ n / 2 ^ g + 1 := by unfold rdg; split <;> lia
theorem rdg_mono {g n m : Nat} (h : n ≤ m) : rdg g n ≤ rdg g m := by
  have hd : n / 2 ^ g ≤ m / 2 ^ g := Nat.div_le_div_right h
  by_cases e : n / 2 ^ g = m / 2 ^ g
  · have h1 := Nat.div_add_mod n (2 ^ g)
    have h2 := Nat.div_add_mod m (2 ^ g)
    rw [e] at h1
    have hr : n % 2 ^ g ≤ m % 2 ^ g := by lia
    unfold rdg
    rw [e]
    generalize 2 ^ g = u at *
    generalize n % u = a at *
    generalize m % u = b at *
    generalize m / u = K at *
    split <;> split <;> lia
  · have := rdg_le g n
    have := rdg_ge g m
    lia
theorem rdg_zero (n : Nat) : rdg 0 n = n := by unfold rdg; simp [Nat.mod_one]
theorem rn_small {p n : Nat} (h : szN n ≤ p) : rn p n = n := by
  unfold rn
  have e : szN n - p = 0 := by omega
  rw [e, rdg_zero]; simp
theorem pow_pred_two {g : Nat} (h : 0 < g) : 2 * 2 ^ (g - 1) = 2 ^ g := by
  obtain ⟨k, rfl⟩ : ∃ k, g = k + 1 := ⟨g - 1, by lia⟩
  rw [Nat.add_sub_cancel, Nat.pow_succ]; lia
theorem rn_lo {p n : Nat} (h : n ≠ 0) (hp : 1 ≤ p) : 2 ^ (szN n - 1) ≤ rn p n := by
  by_cases hs : szN n ≤ p
  · rw [rn_small hs]; exact szN_le h
  · unfold rn
    have e : szN n - 1 = (p - 1) + (szN n - p) := by lia
    have b := szN_le h
    rw [e, Nat.pow_add] at b
    rw [e, Nat.pow_add]
    refine Nat.mul_le_mul_right _ (Nat.le_trans ?_ (rdg_ge _ _))
    exact (Nat.le_div_iff_mul_le (Nat.two_pow_pos _)).mpr b
theorem rn_hi {p n : Nat} (hp : 1 ≤ p) : rn p n ≤ 2 ^ szN n := by
  by_cases hs : szN n ≤ p
  · rw [rn_small hs]; exact Nat.le_of_lt (szN_lt n)
  · unfold rn
    have e : szN n = p + (szN n - p) := by lia
    have a := szN_lt n
    have hd : n / 2 ^ (szN n - p) < 2 ^ p := by
      refine (Nat.div_lt_iff_lt_mul (Nat.two_pow_pos _)).mpr ?_
      rw [← Nat.pow_add, ← e]; exact a
    have hr := rdg_le (szN n - p) n
    calc rdg (szN n - p) n * 2 ^ (szN n - p) ≤ 2 ^ p * 2 ^ (szN n - p) := Nat.mul_le_mul_right _ (by lia)
      _ = 2 ^ szN n := by rw [← Nat.pow_add, ← e]
theorem rn_zero (p : Nat) : rn p 0 = 0 := by unfold rn rdg szN; simp
theorem rn_mono {p n m : Nat} (hp : 1 ≤ p) (h : n ≤ m) : rn p n ≤ rn p m := by
  by_cases h0 : n = 0
  · subst h0; rw [rn_zero]; exact Nat.zero_le _
  · by_cases e : szN n = szN m
    · unfold rn; rw [e]; exact Nat.mul_le_mul_right _ (rdg_mono h)
    · have hm := szN_mono h
      have m0 : m ≠ 0 := by lia
      have a := rn_hi (n := n) hp
      have b := rn_lo m0 hp
      have c : 2 ^ szN n ≤ 2 ^ (szN m - 1) := Nat.pow_le_pow_right (by decide) (by lia)
      lia
theorem rdg_scale (g n k : Nat) : rdg (g + k) (n * 2 ^ k) = rdg g n := by
  unfold rdg
  have hk := Nat.two_pow_pos k
  have e1 : n * 2 ^ k / 2 ^ (g + k) = n / 2 ^ g := by rw [Nat.pow_add]; exact Nat.mul_div_mul_right _ _ hk
  have e2 : n * 2 ^ k % 2 ^ (g + k) = n % 2 ^ g * 2 ^ k := by rw [Nat.pow_add]; exact Nat.mul_mod_mul_right _ _ _
  rw [e1, e2, Nat.pow_add]
  have e3 : (2 ^ g * 2 ^ k < 2 * (n % 2 ^ g * 2 ^ k)) ↔ (2 ^ g < 2 * (n % 2 ^ g)) := by
    rw [← Nat.mul_assoc]; exact Nat.mul_lt_mul_right hk
  have e4 : (2 * (n % 2 ^ g * 2 ^ k) = 2 ^ g * 2 ^ k) ↔ (2 * (n % 2 ^ g) = 2 ^ g) := by
    rw [← Nat.mul_assoc]; exact Nat.mul_left_inj (by lia)
  simp only [e3, e4]
theorem rn_scale {p : Nat} (n k : Nat) : rn p (n * 2 ^ k) = rn p n * 2 ^ k := by
  by_cases h : n = 0
  · subst h; simp [rn_zero]
  · by_cases hs : szN n ≤ p
    · rw [rn_small hs]
      by_cases hs2 : szN n + k ≤ p
      · exact rn_small (by rw [szN_mul h]; exact hs2)
      · unfold rn
        rw [szN_mul h]
        obtain ⟨j, hj⟩ : ∃ j, k = j + (szN n + k - p) := ⟨k - (szN n + k - p), by lia⟩
        generalize hg : szN n + k - p = g at *
        rw [hj, Nat.pow_add, ← Nat.mul_assoc]
        have := rdg_scale 0 (n * 2 ^ j) g
        rw [Nat.zero_add, rdg_zero] at this
        rw [this]
    · unfold rn
      rw [szN_mul h]
      have e : szN n + k - p = (szN n - p) + k := by lia
      rw [e, rdg_scale, Nat.pow_add, ← Nat.mul_assoc]
theorem rn_rep {p k j : Nat} (hp : 1 ≤ p) (h : k ≤ 2 ^ p) : rn p (k * 2 ^ j) = k * 2 ^ j := by
  rw [rn_scale]
  by_cases e : k = 2 ^ p
  · subst e
    have := rn_scale (p := p) 1 p
    rw [Nat.one_mul] at this
    rw [this]
    have h1 : szN 1 = 1 := by decide
    rw [rn_small (n := 1) (by lia), Nat.one_mul]
  · rw [rn_small]
    by_cases h0 : k = 0
    · subst h0; exact Nat.zero_le _
    · have b := szN_le h0
      have := (Nat.pow_lt_pow_iff_right (by decide : 1 < 2)).mp (Nat.lt_of_le_of_lt b (Nat.lt_of_le_of_ne h e))
      lia
/-- what p bits hold -/
def Rep (p n : Nat) : Prop := ∃ k j, n = k * 2 ^ j ∧ k ≤ 2 ^ p
theorem rn_fix {p n : Nat} (hp : 1 ≤ p) (h : Rep p n) : rn p n = n := by
  obtain ⟨k, j, rfl, hk⟩ := h
  exact rn_rep hp hk
theorem rn_isRep {p n : Nat} (hp : 1 ≤ p) : Rep p (rn p n) := by
  by_cases hs : szN n ≤ p
  · rw [rn_small hs]
    refine ⟨n, 0, by simp, ?_⟩
    exact Nat.le_trans (Nat.le_of_lt (szN_lt n)) (Nat.pow_le_pow_right (by decide) hs)
  · refine ⟨rdg (szN n - p) n, szN n - p, rfl, ?_⟩
    have a := rn_hi (p := p) (n := n) hp
    unfold rn at a
    have e : szN n = p + (szN n - p) := by omega
    have c : rdg (szN n - p) n * 2 ^ (szN n - p) ≤ 2 ^ p * 2 ^ (szN n - p) := by rw [← Nat.pow_add, ← e]; exact a
    exact Nat.le_of_mul_le_mul_right c (Nat.two_pow_pos _)
/-- what p bits hold below n lies below n cut to its place -/
theorem rep_below {p n c : Nat} (hp : 1 ≤ p) (hn : p < szN n) (hc : Rep p c) (h : c ≤ n) : c ≤ n / 2 ^ (szN n - p) * 2 ^ (szN n - p) := by
  have hu := Nat.two_pow_pos (szN n - p)
  have n0 : n ≠ 0 := by intro e; subst e; unfold szN at hn; simp at hn
  have b := szN_le n0
  by_cases hlow : c ≤ 2 ^ (szN n - 1)
  · refine Nat.le_trans hlow ?_
    have e : szN n - 1 = (p - 1) + (szN n - p) := by lia
    rw [e, Nat.pow_add]
    refine Nat.mul_le_mul_right _ ?_
    rw [e, Nat.pow_add] at b
    exact (Nat.le_div_iff_mul_le hu).mpr b
  · obtain ⟨k, j, rfl, hk⟩ := hc
    have hj : szN n - p ≤ j := by
      refine Nat.le_of_not_lt fun hj => ?_
      have : k * 2 ^ j ≤ 2 ^ p * 2 ^ j := Nat.mul_le_mul_right _ hk
      rw [← Nat.pow_add] at this
      have : 2 ^ (p + j) ≤ 2 ^ (szN n - 1) := Nat.pow_le_pow_right (by decide) (by lia)
      lia
    obtain ⟨i, rfl⟩ : ∃ i, j = i + (szN n - p) := ⟨j - (szN n - p), by lia⟩
    generalize szN n - p = g at *
    rw [Nat.pow_add, ← Nat.mul_assoc] at h ⊢
    exact Nat.mul_le_mul_right _ ((Nat.le_div_iff_mul_le hu).mpr h)
/-- nearest: what is lost is no more than the way to any other number of p bits -/
theorem rn_near_lo {p n c : Nat} (hp : 1 ≤ p) (hc : Rep p c) (h : c ≤ n) : rn p n - n ≤ n - c ∧ n - rn p n ≤ n - c := by
  by_cases hs : szN n ≤ p
  · rw [rn_small hs]; lia
  · have hu := Nat.two_pow_pos (szN n - p)
    have hb := rep_below hp (by lia) hc h
    have hdm := Nat.div_add_mod n (2 ^ (szN n - p))
    have hm := Nat.mod_lt n hu
    have hmono := rn_mono hp h
    rw [rn_fix hp hc] at hmono
    unfold rn rdg at *
    generalize 2 ^ (szN n - p) = u at *
    generalize n / u = K at *
    generalize n % u = r at *
    have e : u * K = K * u := Nat.mul_comm _ _
    have e2 : (K + 1) * u = K * u + u := Nat.succ_mul _ _
    split <;> simp only [e2] at * <;> lia
theorem rn_near_hi {p n c : Nat} (hp : 1 ≤ p) (hc : Rep p c) (h : n ≤ c) : rn p n - n ≤ c - n ∧ n - rn p n ≤ c - n := by
  by_cases hs : szN n ≤ p
  · rw [rn_small hs]; lia
  · have hu := Nat.two_pow_pos (szN n - p)
    have hdm := Nat.div_add_mod n (2 ^ (szN n - p))
    have hm := Nat.mod_lt n hu
    have hmono := rn_mono hp h
    rw [rn_fix hp hc] at hmono
    have hup : n % 2 ^ (szN n - p) ≠ 0 → (n / 2 ^ (szN n - p) + 1) * 2 ^ (szN n - p) ≤ c := by
      intro hr
      refine Nat.le_of_not_lt fun hlt => ?_
      -- n ≤ c < (K+1) u, so c lies between, and is a multiple of u
      have hcn : c / 2 ^ (szN n - p) = n / 2 ^ (szN n - p) := by
        refine Nat.le_antisymm ?_ (Nat.div_le_div_right h)
        have := (Nat.div_lt_iff_lt_mul hu).mpr hlt
        lia
      have hsz : szN c = szN n := by
        have n0 : n ≠ 0 := by intro e; subst e; simp at hr
        have b := szN_le n0
        refine (szN_uniq (k := szN n - 1) (by lia) ?_).trans (by have := szN_pos n0; lia)
        have e : szN n - 1 + 1 = p + (szN n - p) := by lia
        rw [e, Nat.pow_add]
        refine Nat.lt_of_lt_of_le hlt (Nat.mul_le_mul_right _ ?_)
        have a := szN_lt n
        have e' : szN n = p + (szN n - p) := by lia
        rw [e', Nat.pow_add] at a
        have := (Nat.div_lt_iff_lt_mul (y := 2 ^ p) hu).mpr a
        lia
      have hb := rep_below (n := c) hp (by lia) hc (Nat.le_refl _)
      rw [hsz, hcn] at hb
      have := Nat.mul_comm (n / 2 ^ (szN n - p)) (2 ^ (szN n - p))
      lia
    unfold rn rdg at *
    generalize 2 ^ (szN n - p) = u at *
    generalize n / u = K at *
    generalize n % u = r at *
    have e : u * K = K * u := Nat.mul_comm _ _
    have e2 : (K + 1) * u = K * u + u := Nat.succ_mul _ _
    by_cases hr : r = 0
    · split <;> simp only [e2] at * <;> lia
    · have := hup hr
      split <;> simp only [e2] at * <;> lia
/-- strictly between two neighbours of p+1 bits or more the rounding does not change -/
theorem rdg_between {h k q r : Nat} (hh : 1 ≤ h) (h0 : 0 < r) (h1 : r < 2 ^ (k + 1)) : rdg (h + (k + 1)) (q * 2 ^ (k + 1) + r) = q / 2 ^ h + (if 2 ^ h ≤ 2 * (q % 2 ^ h) then 1 else 0) := by
  have hk := Nat.two_pow_pos (k + 1)
  have hhp := Nat.two_pow_pos h
  have e1 : (q * 2 ^ (k + 1) + r) / 2 ^ (h + (k + 1)) = q / 2 ^ h := by
    rw [Nat.pow_add 2 h (k + 1), Nat.mul_comm (2 ^ h), ← Nat.div_div_eq_div_mul, Nat.add_comm, Nat.add_mul_div_right _ _ hk, Nat.div_eq_of_lt h1, Nat.zero_add]
  have e2 : (q * 2 ^ (k + 1) + r) % 2 ^ (h + (k + 1)) = q % 2 ^ h * 2 ^ (k + 1) + r := by
    have a := Nat.div_add_mod (q * 2 ^ (k + 1) + r) (2 ^ (h + (k + 1)))
    rw [e1, Nat.pow_add 2 h (k + 1)] at a
    have b := Nat.div_add_mod q (2 ^ h)
    have c : q * 2 ^ (k + 1) = 2 ^ h * 2 ^ (k + 1) * (q / 2 ^ h) + q % 2 ^ h * 2 ^ (k + 1) := by
      have := congrArg (· * 2 ^ (k + 1)) b
      simp only [Nat.add_mul] at this
      rw [← this]
      congr 1
      rw [Nat.mul_assoc, Nat.mul_comm (q / 2 ^ h), ← Nat.mul_assoc]
    rw [Nat.pow_add 2 h (k + 1)]
    generalize 2 ^ h * 2 ^ (k + 1) * (q / 2 ^ h) = A at *
    generalize q % 2 ^ h * 2 ^ (k + 1) = B at *
    generalize q * 2 ^ (k + 1) = C at *
    lia
  obtain ⟨j, hj⟩ : ∃ j, 2 ^ h = 2 * j := ⟨2 ^ (h - 1), (pow_pred_two hh).symm⟩
  unfold rdg
  rw [e1, e2, Nat.pow_add 2 h (k + 1), hj]
  generalize q % (2 * j) = a
  generalize q / (2 * j) = b
  generalize 2 ^ (k + 1) = u at *
  by_cases hc : 2 * j ≤ 2 * a
  · rw [if_pos hc]
    have : 2 * j * u ≤ 2 * (a * u) := by rw [← Nat.mul_assoc]; exact Nat.mul_le_mul_right _ hc
    rw [if_pos (Or.inl (by lia))]
  · rw [if_neg hc]
    have : (a + 1) * u ≤ j * u := Nat.mul_le_mul_right _ (by lia)
    have e : (a + 1) * u = a * u + u := Nat.succ_mul _ _
    have e' : 2 * j * u = 2 * (j * u) := Nat.mul_assoc _ _ _
    rw [if_neg (by lia), Nat.add_zero]
theorem szN_between {k q r : Nat} (hq : q ≠ 0) (h1 : r < 2 ^ (k + 1)) : szN (q * 2 ^ (k + 1) + r) = szN q + (k + 1) := by
  have a := szN_lt q
  have b := szN_le hq
  have c := szN_pos hq
  have h2 : 2 ^ (szN q - 1 + (k + 1)) ≤ q * 2 ^ (k + 1) + r := by
    rw [Nat.pow_add 2 (szN q - 1) (k + 1)]
    exact Nat.le_trans (Nat.mul_le_mul_right _ b) (Nat.le_add_right _ _)
  have h3 : q * 2 ^ (k + 1) + r < 2 ^ (szN q - 1 + (k + 1) + 1) := by
    have e : szN q - 1 + (k + 1) + 1 = szN q + (k + 1) := by lia
    rw [e, Nat.pow_add 2 (szN q) (k + 1)]
    have : (q + 1) * 2 ^ (k + 1) ≤ 2 ^ szN q * 2 ^ (k + 1) := Nat.mul_le_mul_right _ a
    rw [Nat.succ_mul] at this
    generalize 2 ^ szN q * 2 ^ (k + 1) = A at *
    generalize q * 2 ^ (k + 1) = C at *
    lia
  have := szN_uniq h2 h3
  lia
theorem rn_const {p k q r r' : Nat} (hq : 2 ^ p ≤ q) (h0 : 0 < r) (h1 : r < 2 ^ (k + 1)) (h0' : 0 < r') (h1' : r' < 2 ^ (k + 1)) : rn p (q * 2 ^ (k + 1) + r) = rn p (q * 2 ^ (k + 1) + r') := by
  have q0 : q ≠ 0 := by have := Nat.two_pow_pos p; lia
  have hs : p < szN q := (Nat.pow_lt_pow_iff_right (by decide : 1 < 2)).mp (Nat.lt_of_le_of_lt hq (szN_lt q))
  unfold rn
  rw [szN_between q0 h1, szN_between q0 h1']
  have e : szN q + (k + 1) - p = (szN q - p) + (k + 1) := by lia
  rw [e, rdg_between (by lia) h0 h1, rdg_between (by lia) h0' h1']
theorem bits_eq (n : Int) : Builtin.Int.intBits n = szN n.natAbs := by
  unfold Builtin.Int.intBits szN
  by_cases h : n = 0
  · subst h; rfl
  · have h1 : (n == 0) = false := by simpa using h
    have h2 : n.natAbs ≠ 0 := by lia
    rw [h1, if_neg h2]
    simp
theorem abs_eq (n : Int) : (if n < 0 then -n else n) = (n.natAbs : Int) := by split <;> omega
theorem sz_eq (n : Int) : sz n = (szN n.natAbs : Int) := by
  unfold sz
  rw [abs_eq, bits_eq, Int.natAbs_natCast]
theorem sg_pos {n : Int} (h : 0 < n) : sg n = 1 := by
  unfold sg
  rw [decide_eq_true h, decide_eq_false (by lia)]
  rfl
theorem sg_neg {n : Int} (h : n < 0) : sg n = -1 := by
  unfold sg
  rw [decide_eq_true h, decide_eq_false (by lia)]
  rfl
theorem sg_zero : sg 0 = 0 := by decide
theorem sg_cases (n : Int) : (0 < n ∧ sg n = 1) ∨ (n = 0 ∧ sg n = 0) ∨ (n < 0 ∧ sg n = -1) := by
  rcases Int.lt_trichotomy n 0 with h | h | h
  · exact .inr (.inr ⟨h, sg_neg h⟩)
  · subst h; exact .inr (.inl ⟨rfl, sg_zero⟩)
  · exact .inl ⟨h, sg_pos h⟩
theorem p2_pos (k : Nat) : (0 : Int) < 2 ^ k := kbt_pos k
theorem p2_cast (k : Nat) : ((2 ^ k : Nat) : Int) = 2 ^ k := kbt_cast k
theorem p2_add (a b : Nat) : (2 : Int) ^ (a + b) = 2 ^ a * 2 ^ b := Int.pow_add 2 a b
theorem fdiv_cast (n : Nat) (g : Nat) : (n : Int).fdiv (2 ^ g) = ((n / 2 ^ g : Nat) : Int) := by
  rw [← p2_cast, Int.fdiv_eq_ediv_of_nonneg _ (Int.natCast_nonneg _)]
  rfl
theorem nsh_eq {n g : Nat} (hg : 1 ≤ g) : nsh n g = (rdg g n : Int) := by
  have e1 : ((g : Int) - 1).toNat = g - 1 := by lia
  have e2 : ((g : Int)).toNat = g := by lia
  have e3 : Builtin.bitAnd (n : Int) (1 * 2 ^ g - 1) = ((n % 2 ^ g : Nat) : Int) := by
    rw [Int.one_mul, kbt_mask, ← p2_cast]; rfl
  have e4 : ∀ z : Nat, Builtin.bitAnd (z : Int) 1 = ((z % 2 : Nat) : Int) := by
    intro z; rw [bitAnd_m1]; rfl
  have e5 : (1 * 2 ^ (g - 1) : Int) = ((2 ^ (g - 1) : Nat) : Int) := by rw [Int.one_mul, p2_cast]
  have e6 := pow_pred_two hg
  unfold nsh rdg
  rw [e1, e2, e3, fdiv_cast, e4, e5]
  generalize 2 ^ (g - 1) = h at *
  generalize 2 ^ g = u at *
  generalize n / u = q
  generalize n % u = r
  by_cases hc : u < 2 * r ∨ (2 * r = u ∧ q % 2 = 1)
  · rw [if_pos hc, if_pos (by lia)]; rfl
  · rw [if_neg hc, if_neg (by lia)]
/-- x & (x-1) takes off the lowest bit -/
theorem land_step (x y : Nat) : x &&& y = 2 * (x / 2 &&& y / 2) + (x % 2 &&& y % 2) := by
  have h1 : (x &&& y) / 2 = x / 2 &&& y / 2 := Nat.and_div_two
  have h2 : (x &&& y) % 2 = x % 2 &&& y % 2 := by
    have := @Nat.and_mod_two_eq_one x y
    rcases Nat.mod_two_eq_zero_or_one x with a | a <;> rcases Nat.mod_two_eq_zero_or_one y with b | b <;> rcases Nat.mod_two_eq_zero_or_one (x &&& y) with c | c <;> simp [a, b, c] at * <;> simp [this]
  have := Nat.div_add_mod (x &&& y) 2
  lia
theorem land_pred : ∀ (t k : Nat), k % 2 = 1 → k * 2 ^ t &&& (k * 2 ^ t - 1) = (k - 1) * 2 ^ t
  | 0, k, hk => by
    rw [land_step]
    simp only [Nat.pow_zero, Nat.mul_one]
    have h1 : (k - 1) % 2 = 0 := by lia
    have h2 : (k - 1) / 2 = k / 2 := by lia
    rw [h1, h2, Nat.and_self, Nat.and_zero]
    lia
  | t + 1, k, hk => by
    rw [land_step]
    have hp := Nat.two_pow_pos t
    have e : k * 2 ^ (t + 1) = 2 * (k * 2 ^ t) := by rw [Nat.pow_succ, ← Nat.mul_assoc, Nat.mul_comm]
    have hpos : 0 < k * 2 ^ t := Nat.mul_pos (by lia) hp
    have h1 : k * 2 ^ (t + 1) % 2 = 0 := by lia
    have h2 : k * 2 ^ (t + 1) / 2 = k * 2 ^ t := by lia
    have h3 : (k * 2 ^ (t + 1) - 1) / 2 = k * 2 ^ t - 1 := by lia
    rw [h1, h2, h3, land_pred t k hk, Nat.zero_and, Nat.add_zero, Nat.pow_succ, ← Nat.mul_assoc, Nat.mul_comm 2, Nat.mul_assoc, Nat.mul_comm 2]
theorem odd_part : ∀ n : Nat, n ≠ 0 → ∃ k t, n = k * 2 ^ t ∧ k % 2 = 1 := by
  intro n
  induction n using Nat.strongRecOn with
  | ind n ih =>
    intro h
    rcases Nat.mod_two_eq_zero_or_one n with h1 | h1
    · obtain ⟨k, t, e, hk⟩ := ih (n / 2) (by lia) (by lia)
      refine ⟨k, t + 1, ?_, hk⟩
      rw [Nat.pow_succ, ← Nat.mul_assoc, ← e]
      lia
    · exact ⟨n, 0, by simp, h1⟩
theorem low_bit {n : Int} {k t : Nat} (h : n.natAbs = k * 2 ^ t) (hk : k % 2 = 1) : Builtin.bitAnd n (0 - n) = 2 ^ t := by
  have hp := Nat.two_pow_pos t
  have hpos : 0 < k * 2 ^ t := Nat.mul_pos (by lia) hp
  have hl := land_pred t k hk
  have e : (k - 1) * 2 ^ t = k * 2 ^ t - 2 ^ t := by rw [Nat.sub_mul, Nat.one_mul]
  have hle : 2 ^ t ≤ k * 2 ^ t := Nat.le_mul_of_pos_left _ (by lia)
  rw [← p2_cast]
  by_cases hn : 0 ≤ n
  · rw [bitAnd_pn hn (by lia)]
    have h1 : (Builtin.bitNot (0 - n)).toNat = k * 2 ^ t - 1 := by unfold Builtin.bitNot; lia
    have h2 : n.toNat = k * 2 ^ t := by lia
    rw [h1, h2, hl, e]
    lia
  · rw [bitAnd_np hn (by lia)]
    have h1 : (Builtin.bitNot n).toNat = k * 2 ^ t - 1 := by unfold Builtin.bitNot; lia
    have h2 : (0 - n).toNat = k * 2 ^ t := by lia
    rw [h1, h2, hl, e]
    lia
theorem szN_pow (t : Nat) : szN (2 ^ t) = t + 1 := szN_uniq (Nat.le_refl _) (Nat.pow_lt_pow_right (by decide) (by lia))
theorem zb_eq {n : Int} {k t : Nat} (h : n.natAbs = k * 2 ^ t) (hk : k % 2 = 1) : zb n = t := by
  unfold zb
  rw [low_bit h hk, bits_eq]
  have : ((2 : Int) ^ t).natAbs = 2 ^ t := by rw [← p2_cast]; simp
  rw [this, szN_pow]
  lia
theorem zb_spec {n : Int} (h : n ≠ 0) : ∃ k : Int, ∃ t : Nat, n = k * 2 ^ t ∧ k % 2 = 1 ∧ zb n = t ∧ n.fdiv (2 ^ t) = k := by
  obtain ⟨k, t, e, hk⟩ := odd_part n.natAbs (by lia)
  have hz := zb_eq e hk
  have hp := p2_pos t
  have key : ∀ j : Int, n = j * 2 ^ t → n.fdiv (2 ^ t) = j := by
    intro j hj
    rw [Int.fdiv_eq_ediv_of_nonneg _ (by lia), hj, Int.mul_ediv_cancel _ (by lia)]
  have ec : (n.natAbs : Int) = (k : Int) * 2 ^ t := by rw [e, Int.natCast_mul, p2_cast]
  by_cases hn : 0 ≤ n
  · have e1 : n = (k : Int) * 2 ^ t := by lia
    exact ⟨k, t, e1, by lia, hz, key _ e1⟩
  · have e1 : n = -(k : Int) * 2 ^ t := by rw [Int.neg_mul]; lia
    exact ⟨-(k : Int), t, e1, by lia, hz, key _ e1⟩
theorem zb_nonneg' {n : Int} (h : n ≠ 0) : 0 ≤ zb n := by
  obtain ⟨k, t, _, _, hz, _⟩ := zb_spec h
  lia
theorem sz_nonneg' (n : Int) : 0 ≤ sz n := by rw [sz_eq]; lia
/-- rounding of whole numbers -/
def R (p : Nat) (N : Int) : Int := if N < 0 then -(rn p N.natAbs : Int) else (rn p N.natAbs : Int)
theorem R_nat (p n : Nat) : R p (n : Int) = (rn p n : Int) := by
  unfold R
  rw [if_neg (by lia), Int.natAbs_natCast]
theorem R_zero (p : Nat) : R p 0 = 0 := by
  have := R_nat p 0
  rw [rn_zero] at this
  exact this
theorem R_neg (p : Nat) (N : Int) : R p (-N) = -R p N := by
  unfold R
  rw [Int.natAbs_neg]
  rcases Int.lt_trichotomy N 0 with h | h | h
  · rw [if_neg (by lia), if_pos h]; lia
  · subst h; simp [rn_zero]
  · rw [if_pos (by lia), if_neg (by lia)]
theorem nat_of {N : Int} (h : 0 ≤ N) : ∃ n : Nat, N = n := ⟨N.toNat, by lia⟩
theorem R_nonneg {p : Nat} {N : Int} (h : 0 ≤ N) : 0 ≤ R p N := by
  obtain ⟨n, rfl⟩ := nat_of h
  rw [R_nat]; lia
theorem R_nonpos {p : Nat} {N : Int} (h : N ≤ 0) : R p N ≤ 0 := by
  have h1 : 0 ≤ R p (-N) := R_nonneg (by lia)
  rw [R_neg] at h1
  lia
theorem R_mono {p : Nat} (hp : 1 ≤ p) {N M : Int} (h : N ≤ M) : R p N ≤ R p M := by
  by_cases hN : 0 ≤ N
  · obtain ⟨n, rfl⟩ := nat_of hN
    obtain ⟨m, rfl⟩ := nat_of (N := M) (by lia)
    rw [R_nat, R_nat]
    have := rn_mono (p := p) hp (n := n) (m := m) (by lia)
    lia
  · by_cases hM : 0 ≤ M
    · have := R_nonneg (p := p) hM
      have := R_nonpos (p := p) (N := N) (by lia)
      lia
    · obtain ⟨n, hn⟩ := nat_of (N := -N) (by lia)
      obtain ⟨m, hm⟩ := nat_of (N := -M) (by lia)
      have e1 := R_neg p N
      have e2 := R_neg p M
      rw [hn, R_nat] at e1
      rw [hm, R_nat] at e2
      have := rn_mono (p := p) hp (n := m) (m := n) (by lia)
      lia
theorem R_scale (p : Nat) (N : Int) (k : Nat) : R p (N * 2 ^ k) = R p N * 2 ^ k := by
  have key : ∀ n : Nat, R p ((n : Int) * 2 ^ k) = R p (n : Int) * 2 ^ k := by
    intro n
    rw [← p2_cast, ← Int.natCast_mul, R_nat, R_nat, rn_scale, Int.natCast_mul]
  by_cases hN : 0 ≤ N
  · obtain ⟨n, rfl⟩ := nat_of hN; exact key n
  · obtain ⟨n, hn⟩ := nat_of (N := -N) (by lia)
    have := key n
    rw [← hn, Int.neg_mul, R_neg, R_neg, Int.neg_mul] at this
    lia
/-- what p bits hold, whole numbers -/
def RepZ (p : Nat) (N : Int) : Prop := ∃ k : Int, ∃ j : Nat, N = k * 2 ^ j ∧ k.natAbs ≤ 2 ^ p
theorem RepZ.abs {p : Nat} {N : Int} (h : RepZ p N) : Rep p N.natAbs := by
  obtain ⟨k, j, rfl, hk⟩ := h
  refine ⟨k.natAbs, j, ?_, hk⟩
  rw [Int.natAbs_mul, ← p2_cast, Int.natAbs_natCast]
theorem R_fix {p : Nat} (hp : 1 ≤ p) {N : Int} (h : RepZ p N) : R p N = N := by
  have := rn_fix hp h.abs
  unfold R
  rw [this]
  split <;> lia
theorem R_isRep {p : Nat} (hp : 1 ≤ p) (N : Int) : RepZ p (R p N) := by
  obtain ⟨k, j, e, hk⟩ := rn_isRep (n := N.natAbs) hp
  unfold R
  rw [e, Int.natCast_mul, p2_cast]
  by_cases h : N < 0
  · rw [if_pos h]
    exact ⟨-(k : Int), j, (Int.neg_mul _ _).symm, by omega⟩
  · rw [if_neg h]
    exact ⟨k, j, rfl, by omega⟩
theorem R_abs (p : Nat) (N : Int) : (R p N).natAbs = rn p N.natAbs := by unfold R; split <;> lia
/-- nearest, whole numbers: c on the same side -/
theorem R_near {p : Nat} (hp : 1 ≤ p) {N c : Int} (hc : RepZ p c) (h : 0 ≤ N ∧ 0 ≤ c) : (R p N - N).natAbs ≤ (N - c).natAbs := by
  obtain ⟨n, rfl⟩ := nat_of h.1
  obtain ⟨d, rfl⟩ := nat_of h.2
  have hd := hc.abs
  rw [Int.natAbs_natCast] at hd
  rw [R_nat]
  by_cases hl : d ≤ n
  · have := rn_near_lo hp hd hl
    lia
  · have := rn_near_hi hp hd (n := n) (by lia)
    lia
theorem R_const {p k : Nat} {q r r' : Int} (hq : 2 ^ p ≤ q) (h0 : 0 < r) (h1 : r < 2 ^ (k + 1)) (h0' : 0 < r') (h1' : r' < 2 ^ (k + 1)) : R p (q * 2 ^ (k + 1) + r) = R p (q * 2 ^ (k + 1) + r') := by
  obtain ⟨q, rfl⟩ := nat_of (N := q) (by have := p2_pos p; lia)
  obtain ⟨r, rfl⟩ := nat_of (N := r) (by lia)
  obtain ⟨r', rfl⟩ := nat_of (N := r') (by lia)
  rw [← p2_cast] at *
  have := rn_const (p := p) (k := k) (q := q) (r := r) (r' := r') (by lia) (by lia) (by lia) (by lia) (by lia)
  rw [← Int.natCast_mul, ← Int.natCast_add, ← Int.natCast_add, R_nat, R_nat, this]
/-- the number in units of 2^-500 -/
def V (m e : Int) : Int := m * 2 ^ (e + 500).toNat
theorem V_zero (e : Int) : V 0 e = 0 := by unfold V; rw [Int.zero_mul]
theorem V_neg (m e : Int) : V (-m) e = -V m e := by unfold V; rw [Int.neg_mul]
theorem V_shift {m e : Int} {k : Nat} (h : -500 ≤ e) : V (m * 2 ^ k) e = V m (e + k) := by
  unfold V
  have : (e + k + 500).toNat = k + (e + 500).toNat := by lia
  rw [this, p2_add, Int.mul_assoc]
theorem V_up {m e : Int} {k : Nat} (h : -500 ≤ e) : V m e * 2 ^ k = V m (e + k) := by
  rw [← V_shift h]
  unfold V
  rw [Int.mul_assoc, Int.mul_assoc, Int.mul_comm (2 ^ k)]
theorem V_eq_zero {m e : Int} : V m e = 0 ↔ m = 0 := by
  unfold V
  have := p2_pos (e + 500).toNat
  constructor
  · intro h
    rcases Int.mul_eq_zero.mp h with h | h
    · exact h
    · lia
  · intro h; rw [h, Int.zero_mul]
theorem V_pos {m e : Int} : 0 < V m e ↔ 0 < m := by
  unfold V
  have hp := p2_pos (e + 500).toNat
  constructor
  · intro h
    refine Int.lt_of_not_ge fun hm => ?_
    have := Int.mul_nonpos_of_nonpos_of_nonneg hm (Int.le_of_lt hp)
    omega
  · intro h; exact Int.mul_pos h hp
theorem V_neg_iff {m e : Int} : V m e < 0 ↔ m < 0 := by
  have h := V_pos (m := -m) (e := e)
  rw [V_neg] at h
  lia
def Can (m e : Int) : Prop := (m = 0 ∧ e = 0) ∨ m % 2 = 1
theorem can_uniq {m1 e1 m2 e2 : Int} (c1 : Can m1 e1) (c2 : Can m2 e2) (h1 : -500 ≤ e1) (h2 : -500 ≤ e2) (h : V m1 e1 = V m2 e2) : m1 = m2 ∧ e1 = e2 := by
  by_cases hz : m1 = 0
  · have h0 : m2 = 0 := by
      rw [hz, V_zero] at h
      exact V_eq_zero.mp h.symm
    rcases c1 with c1 | c1 <;> rcases c2 with c2 | c2 <;> lia
  · have hz2 : m2 ≠ 0 := by
      intro h0
      rw [h0, V_zero] at h
      exact hz (V_eq_zero.mp h)
    have o1 : m1 % 2 = 1 := by rcases c1 with c | c; (exact absurd c.1 hz); exact c
    have o2 : m2 % 2 = 1 := by rcases c2 with c | c; (exact absurd c.1 hz2); exact c
    have key : ∀ {a b x y : Int}, a % 2 = 1 → -500 ≤ x → x ≤ y → V a x = V b y → a = b ∧ x = y := by
      intro a b x y oa hx hxy hv
      obtain ⟨k, rfl⟩ : ∃ k : Nat, y = x + k := ⟨(y - x).toNat, by lia⟩
      rw [← V_shift hx] at hv
      have hc : a = b * 2 ^ k := Int.eq_of_mul_eq_mul_right (by have := p2_pos (x + 500).toNat; lia) hv
      cases k with
      | zero => simp at hc; lia
      | succ k =>
        rw [Int.pow_succ, ← Int.mul_assoc] at hc
        lia
    by_cases hle : e1 ≤ e2
    · exact key o1 h1 hle h
    · have := key o2 h2 (by lia) h.symm
      lia
theorem lean_val {m e : Int} (h : -500 ≤ e) : V (leanF m e).1 (leanF m e).2 = V m e ∧ Can (leanF m e).1 (leanF m e).2 ∧ -500 ≤ (leanF m e).2 := by
  unfold leanF
  by_cases hz : m = 0
  · rw [if_pos hz, hz]
    refine ⟨?_, .inl ⟨rfl, rfl⟩, by decide⟩
    rw [V_zero, V_zero]
  · rw [if_neg hz]
    obtain ⟨k, t, e1, hk, e2, e3⟩ := zb_spec hz
    simp only [e2]
    have e4 : ((t : Int)).toNat = t := by lia
    rw [e4, e3]
    refine ⟨?_, .inr hk, by lia⟩
    rw [← V_shift h, ← e1]
theorem sg_mul_abs (m : Int) : sg m * (m.natAbs : Int) = m := by
  rcases sg_cases m with ⟨h, e⟩ | ⟨h, e⟩ | ⟨h, e⟩ <;> rw [e] <;> lia
theorem R_sg (p : Nat) (m : Int) : R p m = sg m * (rn p m.natAbs : Int) := by
  unfold R
  rcases sg_cases m with ⟨h, e⟩ | ⟨h, e⟩ | ⟨h, e⟩ <;> rw [e]
  · rw [if_neg (by lia)]; lia
  · subst h; simp [rn_zero]
  · rw [if_pos h]; lia
theorem shr_val {p m e : Int} (hp : 1 ≤ p) (h : -500 ≤ e) : V (shr p m e).1 (shr p m e).2 = R p.toNat (V m e) ∧ Can (shr p m e).1 (shr p m e).2 ∧ -500 ≤ (shr p m e).2 := by
  unfold shr
  have hs := sz_eq m
  have hV : R p.toNat (V m e) = R p.toNat m * 2 ^ (e + 500).toNat := by unfold V; exact R_scale _ _ _
  by_cases hc : sz m - p ≤ 0
  · rw [if_pos hc]
    obtain ⟨a, b, c⟩ := lean_val (m := m) h
    refine ⟨?_, b, c⟩
    rw [a, hV]
    have : R p.toNat m = m := by
      rw [R_sg, rn_small (by lia), sg_mul_abs]
    rw [this]; rfl
  · rw [if_neg hc]
    obtain ⟨g, hg⟩ : ∃ g : Nat, sz m - p = (g : Int) := ⟨(sz m - p).toNat, by lia⟩
    rw [hg, abs_eq, nsh_eq (by lia)]
    obtain ⟨a, b, c⟩ := lean_val (m := sg m * (rdg g m.natAbs : Int)) (e := e + g) (by lia)
    refine ⟨?_, b, c⟩
    rw [a, hV, ← V_shift h]
    unfold V
    congr 1
    have e1 : szN m.natAbs - p.toNat = g := by lia
    rw [R_sg]
    unfold rn
    rw [e1, Int.mul_assoc, Int.natCast_mul, p2_cast]
/-- what a rounded number is -/
def Is (p : Int) (x : Int × Int) (N : Int) : Prop := V x.1 x.2 = R p.toNat N ∧ Can x.1 x.2 ∧ -500 ≤ x.2
theorem shr_is {p m e : Int} (hp : 1 ≤ p) (h : -500 ≤ e) : Is p (shr p m e) (V m e) := shr_val hp h
theorem Is.eq {p : Int} {x y : Int × Int} {N : Int} (h1 : Is p x N) (h2 : Is p y N) : x.1 = y.1 ∧ x.2 = y.2 :=
  can_uniq h1.2.1 h2.2.1 h1.2.2 h2.2.2 (h1.1.trans h2.1.symm)
/-- canonical, in bounds -/
structure Ok (m e : Int) : Prop where
  can : Can m e
  lo : -200 ≤ e
  hi : e ≤ 200
theorem Ok.zero {m e : Int} (h : Ok m e) (h0 : m = 0) : e = 0 := by
  rcases h.can with c | c
  · exact c.2
  · lia
theorem Ok.neg {m e : Int} (h : Ok m e) : Ok (0 - m) e := by
  refine ⟨?_, h.lo, h.hi⟩
  rcases h.can with c | c
  · left; lia
  · right; lia
theorem cmpM_val {m1 e1 m2 e2 : Int} (p1 : 0 < m1) (p2 : 0 < m2) (h1 : -500 ≤ e1) (h2 : -500 ≤ e2) : cmpM m1 e1 m2 e2 = sg (V m1 e1 - V m2 e2) := by
  have key : ∀ {a b x y : Int}, 0 < a → 0 < b → -500 ≤ x → -500 ≤ y → sz b + y < sz a + x → V b y < V a x := by
    intro a b x y ha hb hx hy hlt
    rw [sz_eq, sz_eq] at hlt
    obtain ⟨n, rfl⟩ := nat_of (N := a) (by lia)
    obtain ⟨m, rfl⟩ := nat_of (N := b) (by lia)
    rw [Int.natAbs_natCast, Int.natAbs_natCast] at hlt
    have a1 := szN_le (n := n) (by lia)
    have a2 := szN_lt m
    have a3 := szN_pos (n := n) (by lia)
    obtain ⟨u, hu⟩ : ∃ u : Nat, (x + 500).toNat = u := ⟨_, rfl⟩
    obtain ⟨v, hv⟩ : ∃ v : Nat, (y + 500).toNat = v := ⟨_, rfl⟩
    unfold V
    rw [hu, hv, ← p2_cast, ← p2_cast, ← Int.natCast_mul, ← Int.natCast_mul]
    have b1 : 2 ^ (szN n - 1) * 2 ^ u ≤ n * 2 ^ u := Nat.mul_le_mul_right _ a1
    have b2 : m * 2 ^ v < 2 ^ szN m * 2 ^ v := Nat.mul_lt_mul_of_pos_right a2 (Nat.two_pow_pos v)
    rw [← Nat.pow_add] at b1 b2
    have b3 : 2 ^ (szN m + v) ≤ 2 ^ (szN n - 1 + u) := Nat.pow_le_pow_right (by decide) (by lia)
    exact Int.ofNat_lt.mpr (Nat.lt_of_lt_of_le b2 (Nat.le_trans b3 b1))
  unfold cmpM
  by_cases hc : sz m1 + e1 ≠ sz m2 + e2
  · rw [if_pos hc]
    by_cases hd : sz m2 + e2 < sz m1 + e1
    · rw [if_pos hd]
      have := key p1 p2 h1 h2 hd
      rw [sg_pos (by lia)]
    · rw [if_neg hd]
      have := key p2 p1 h2 h1 (by lia)
      rw [sg_neg (by lia)]
  · rw [if_neg hc]
    have hl : ∀ {a x : Int} (low : Int), -500 ≤ low → low ≤ x → V a x = a * 2 ^ (x - low).toNat * 2 ^ (low + 500).toNat := by
      intro a x low g1 g2
      unfold V
      have : (x + 500).toNat = (x - low).toNat + (low + 500).toNat := by lia
      rw [this, p2_add, Int.mul_assoc]
    obtain ⟨low, hlow⟩ : ∃ low, low = if e2 < e1 then e2 else e1 := ⟨_, rfl⟩
    rw [← hlow]
    have l1 : low ≤ e1 ∧ low ≤ e2 ∧ -500 ≤ low := by rw [hlow]; split <;> lia
    rw [hl (a := m1) low l1.2.2 l1.1, hl (a := m2) low l1.2.2 l1.2.1, ← Int.sub_mul]
    have hp := p2_pos (low + 500).toNat
    generalize m1 * 2 ^ (e1 - low).toNat - m2 * 2 ^ (e2 - low).toNat = d
    rcases sg_cases d with ⟨h, e⟩ | ⟨h, e⟩ | ⟨h, e⟩
    · rw [e, sg_pos (Int.mul_pos h hp)]
    · rw [e, h, Int.zero_mul, sg_zero]
    · rw [e, sg_neg (Int.mul_neg_of_neg_of_pos h hp)]
theorem cmpR_val {m1 e1 m2 e2 : Int} (h1 : -500 ≤ e1) (h2 : -500 ≤ e2) : cmpR m1 e1 m2 e2 = sg (V m1 e1 - V m2 e2) := by
  have s1 := V_pos (m := m1) (e := e1)
  have s2 := V_pos (m := m2) (e := e2)
  have t1 := V_neg_iff (m := m1) (e := e1)
  have t2 := V_neg_iff (m := m2) (e := e2)
  have z1 := V_eq_zero (m := m1) (e := e1)
  have z2 := V_eq_zero (m := m2) (e := e2)
  unfold cmpR
  rw [abs_eq, abs_eq]
  rcases sg_cases m1 with ⟨a, e⟩ | ⟨a, e⟩ | ⟨a, e⟩ <;> rcases sg_cases m2 with ⟨b, f⟩ | ⟨b, f⟩ | ⟨b, f⟩ <;> rw [e, f]
  · have h1' : (m1.natAbs : Int) = m1 := by lia
    have h2' : (m2.natAbs : Int) = m2 := by lia
    rw [h1', h2', if_neg (by decide), if_neg (by decide), cmpM_val a b h1 h2, Int.one_mul]
  · rw [if_pos (by decide), if_pos (by decide), sg_pos (by lia)]
  · rw [if_pos (by decide), if_pos (by decide), sg_pos (by lia)]
  · rw [if_pos (by decide), if_neg (by decide), sg_neg (by lia)]
  · have : V m1 e1 - V m2 e2 = 0 := by lia
    rw [if_neg (by decide), if_pos rfl, this, sg_zero]
  · rw [if_pos (by decide), if_pos (by decide), sg_pos (by lia)]
  · rw [if_pos (by decide), if_neg (by decide), sg_neg (by lia)]
  · rw [if_pos (by decide), if_neg (by decide), sg_neg (by lia)]
  · have h1' : (m1.natAbs : Int) = -m1 := by lia
    have h2' : (m2.natAbs : Int) = -m2 := by lia
    rw [h1', h2', if_neg (by decide), if_neg (by decide), cmpM_val (by lia) (by lia) h1 h2, V_neg, V_neg]
    rcases sg_cases (V m1 e1 - V m2 e2) with ⟨h, e⟩ | ⟨h, e⟩ | ⟨h, e⟩ <;> rw [e]
    · rw [sg_neg (by lia)]; rfl
    · have : -V m1 e1 - -V m2 e2 = 0 := by lia
      rw [this]; rfl
    · rw [sg_pos (by lia)]; rfl
theorem R_side {p k : Nat} {G r r' : Int} (hG : 2 ^ p + 1 ≤ (G.natAbs : Int)) (h : (0 < r ∧ 0 < r') ∨ (r < 0 ∧ r' < 0)) (h1 : (r.natAbs : Int) < 2 ^ (k + 1)) (h2 : (r'.natAbs : Int) < 2 ^ (k + 1)) : R p (G * 2 ^ (k + 1) + r) = R p (G * 2 ^ (k + 1) + r') := by
  have key : ∀ {G r r' : Int}, 2 ^ p + 1 ≤ G → ((0 < r ∧ 0 < r') ∨ (r < 0 ∧ r' < 0)) → (r.natAbs : Int) < 2 ^ (k + 1) → (r'.natAbs : Int) < 2 ^ (k + 1) → R p (G * 2 ^ (k + 1) + r) = R p (G * 2 ^ (k + 1) + r') := by
    intro G r r' hG h h1 h2
    rcases h with ⟨a, b⟩ | ⟨a, b⟩
    · exact R_const (by lia) a (by lia) b (by lia)
    · have e : ∀ x : Int, G * 2 ^ (k + 1) + x = (G - 1) * 2 ^ (k + 1) + (x + 2 ^ (k + 1)) := by
        intro x; rw [Int.sub_mul, Int.one_mul]; lia
      rw [e r, e r']
      exact R_const (by lia) (by lia) (by lia) (by lia) (by lia)
  by_cases hg : 0 ≤ G
  · exact key (by lia) h h1 h2
  · have e : ∀ x : Int, G * 2 ^ (k + 1) + x = -(-G * 2 ^ (k + 1) + -x) := by
      intro x; rw [Int.neg_mul]; lia
    rw [e r, e r', R_neg, R_neg, key (r := -r) (r' := -r') (by lia) (by lia) (by lia) (by lia)]
theorem V_low {a x : Int} (low : Int) (g1 : -500 ≤ low) (g2 : low ≤ x) : V a x = V (a * 2 ^ (x - low).toNat) low := by
  rw [V_shift g1]
  have : low + ((x - low).toNat : Int) = x := by lia
  rw [this]
theorem V_add (a b e : Int) : V (a + b) e = V a e + V b e := by unfold V; rw [Int.add_mul]
theorem V_abs_lt {m e : Int} {k : Nat} (h : -500 ≤ e) (hk : sz m + e + 500 ≤ k) : ((V m e).natAbs : Int) < 2 ^ k := by
  rw [sz_eq] at hk
  unfold V
  obtain ⟨u, hu⟩ : ∃ u : Nat, (e + 500).toNat = u := ⟨_, rfl⟩
  rw [hu, Int.natAbs_mul, ← p2_cast, ← p2_cast, Int.natAbs_natCast]
  have a := szN_lt m.natAbs
  have b : m.natAbs * 2 ^ u < 2 ^ szN m.natAbs * 2 ^ u := Nat.mul_lt_mul_of_pos_right a (Nat.two_pow_pos u)
  rw [← Nat.pow_add] at b
  have c : 2 ^ (szN m.natAbs + u) ≤ 2 ^ k := Nat.pow_le_pow_right (by decide) (by lia)
  exact Int.ofNat_lt.mpr (Nat.lt_of_lt_of_le b c)
theorem far_is {p gm ge sm se : Int} (hp : 1 ≤ p ∧ p ≤ 64) (hg : -200 ≤ ge) (hs : -200 ≤ se) (g0 : gm ≠ 0) (s0 : sm ≠ 0)
    (hc : sz sm + se < (if sz gm + ge - p - 3 < ge then sz gm + ge - p - 3 else ge)) : Is p (farF p gm ge sm) (V gm ge + V sm se) := by
  obtain ⟨s, hsh⟩ : ∃ s : Nat, (if 0 < p + 3 - sz gm then p + 3 - sz gm else 0) = (s : Int) := by
    refine ⟨(if 0 < p + 3 - sz gm then p + 3 - sz gm else 0).toNat, ?_⟩
    split <;> lia
  have hzg := sz_nonneg' gm
  have hzs := sz_nonneg' sm
  have hlast : (if sz gm + ge - p - 3 < ge then sz gm + ge - p - 3 else ge) = ge - s := by
    rw [← hsh]; split <;> split <;> lia
  have hs64 : s ≤ 67 := by
    have : (s : Int) ≤ 67 := by rw [← hsh]; split <;> lia
    lia
  rw [hlast] at hc
  unfold farF
  rw [hsh]
  have e0 : ((s : Int)).toNat = s := by lia
  rw [e0]
  have := shr_is (p := p) (m := 2 * (gm * 2 ^ s) + sg sm) (e := ge - s - 1) hp.1 (by lia)
  obtain ⟨a, b, c⟩ := this
  refine ⟨?_, b, c⟩
  rw [a]
  obtain ⟨k, hk⟩ : ∃ k : Nat, ge - s + 500 = k + 1 := ⟨(ge - s + 499).toNat, by lia⟩
  have e1 : V gm ge = gm * 2 ^ s * 2 ^ (k + 1) := by
    have e : (ge - s + 500).toNat = k + 1 := by lia
    have := V_shift (m := gm) (e := ge - s) (k := s) (by lia)
    rw [show ge - (s : Int) + s = ge by lia] at this
    rw [← this]
    unfold V
    rw [e]
  have e2 : V (2 * (gm * 2 ^ s) + sg sm) (ge - s - 1) = gm * 2 ^ s * 2 ^ (k + 1) + sg sm * 2 ^ k := by
    have e : (ge - s - 1 + 500).toNat = k := by lia
    unfold V
    rw [e, Int.add_mul, Int.pow_succ]
    congr 1
    generalize gm * 2 ^ s = y
    rw [Int.mul_comm 2 y, Int.mul_assoc, Int.mul_comm 2]
  rw [e1, e2]
  refine R_side ?_ ?_ ?_ ?_
  · -- the great one has p+3 bits
    have h1 := szN_le (n := gm.natAbs) (by lia)
    have h2 := szN_pos (n := gm.natAbs) (by lia)
    have h3 := sz_eq gm
    have h4 : p + 3 ≤ sz gm + s := by rw [← hsh]; split <;> lia
    rw [Int.natAbs_mul, ← p2_cast, ← p2_cast, Int.natAbs_natCast]
    have h5 : 2 ^ (szN gm.natAbs - 1) * 2 ^ s ≤ gm.natAbs * 2 ^ s := Nat.mul_le_mul_right _ h1
    rw [← Nat.pow_add] at h5
    have h6 : 2 ^ (p.toNat + 1) ≤ 2 ^ (szN gm.natAbs - 1 + s) := Nat.pow_le_pow_right (by decide) (by lia)
    have h7 : 2 ^ (p.toNat + 1) = 2 * 2 ^ p.toNat := by rw [Nat.pow_succ, Nat.mul_comm]
    have h8 := Nat.two_pow_pos p.toNat
    lia
  · have hp2 := p2_pos k
    rcases sg_cases sm with ⟨h, e⟩ | ⟨h, e⟩ | ⟨h, e⟩
    · left; rw [e]; exact ⟨by lia, V_pos.mpr h⟩
    · lia
    · right; rw [e]; exact ⟨by lia, V_neg_iff.mpr h⟩
  · have hp2 := p2_pos k
    rw [Int.pow_succ]
    rcases sg_cases sm with ⟨h, e⟩ | ⟨h, e⟩ | ⟨h, e⟩ <;> rw [e] <;> lia
  · exact V_abs_lt (by lia) (by lia)
theorem addG_is {p gm ge sm se : Int} (hp : 1 ≤ p ∧ p ≤ 64) (hg : -200 ≤ ge) (hs : -200 ≤ se) (g0 : gm ≠ 0) (s0 : sm ≠ 0) : Is p (addG p gm ge sm se) (V gm ge + V sm se) := by
  unfold addG
  by_cases hc : sz sm + se < (if sz gm + ge - p - 3 < ge then sz gm + ge - p - 3 else ge)
  · rw [if_pos hc]; exact far_is hp hg hs g0 s0 hc
  · rw [if_neg hc]
    have l1 : (if se < ge then se else ge) ≤ ge ∧ (if se < ge then se else ge) ≤ se ∧ -200 ≤ (if se < ge then se else ge) := by split <;> lia
    have := shr_is (p := p) (m := totF gm ge sm se) (e := if se < ge then se else ge) hp.1 (by lia)
    unfold totF at this ⊢
    rw [V_add, ← V_low _ (by lia) l1.1, ← V_low _ (by lia) l1.2.1] at this
    exact this
theorem add_is {p m1 e1 m2 e2 : Int} (hp : 1 ≤ p ∧ p ≤ 64) (x : Ok m1 e1) (y : Ok m2 e2) : Is p (addF p m1 e1 m2 e2) (V m1 e1 + V m2 e2) := by
  have hx := x.lo
  have hy := y.lo
  unfold addF
  by_cases hz : sg m1 = 0 ∨ sg m2 = 0
  · rw [if_pos hz]
    have := shr_is (p := p) (m := m1 + m2) (e := e1 + e2) hp.1 (by lia)
    have e : V (m1 + m2) (e1 + e2) = V m1 e1 + V m2 e2 := by
      rcases hz with hz | hz
      · have h0 : m1 = 0 := by rcases sg_cases m1 with h | h | h <;> lia
        rw [x.zero h0, h0, V_zero, Int.zero_add, Int.zero_add, Int.zero_add]
      · have h0 : m2 = 0 := by rcases sg_cases m2 with h | h | h <;> lia
        rw [y.zero h0, h0, V_zero, Int.add_zero, Int.add_zero, Int.add_zero]
    rw [e] at this
    exact this
  · rw [if_neg hz]
    have h1 : m1 ≠ 0 := by intro h; subst h; exact hz (.inl sg_zero)
    have h2 : m2 ≠ 0 := by intro h; subst h; exact hz (.inr sg_zero)
    by_cases hc : sz m2 + e2 ≤ sz m1 + e1
    · rw [if_pos hc]; exact addG_is hp hx hy h1 h2
    · rw [if_neg hc, Int.add_comm]; exact addG_is hp hy hx h2 h1
theorem mul_is {p m1 e1 m2 e2 : Int} (hp : 1 ≤ p ∧ p ≤ 64) (x : Ok m1 e1) (y : Ok m2 e2) : Is p (mulF p m1 e1 m2 e2) (V (m1 * m2) (e1 + e2)) := by
  have hx := x.lo
  have hy := y.lo
  unfold mulF
  exact shr_is hp.1 (by lia)
theorem V_mul {m1 e1 m2 e2 : Int} (hx : -200 ≤ e1) (hy : -200 ≤ e2) : V m1 e1 * V m2 e2 = V (m1 * m2) (e1 + e2) * 2 ^ 500 := by
  unfold V
  obtain ⟨u, hu⟩ : ∃ u : Nat, (e1 + 500).toNat = u := ⟨_, rfl⟩
  obtain ⟨v, hv⟩ : ∃ v : Nat, (e2 + 500).toNat = v := ⟨_, rfl⟩
  obtain ⟨t, ht⟩ : ∃ t : Nat, (e1 + e2 + 500).toNat = t := ⟨_, rfl⟩
  have e : u + v = t + 500 := by lia
  rw [hu, hv, ht, Int.mul_assoc (m1 * m2), ← p2_add, ← e, p2_add, Int.mul_assoc, Int.mul_assoc]
  congr 1
  rw [Int.mul_left_comm]
/-- bounds from the value -/
theorem bnd {m e : Int} {K : Nat} (h1 : -500 ≤ e) (hc : Can m e) (hv : ((V m e).natAbs : Int) < 2 ^ K) (hK : 500 ≤ K) : e + 500 ≤ K ∧ ((m.natAbs : Nat) : Int) < 2 ^ K := by
  by_cases hz : m = 0
  · have : e = 0 := by rcases hc with c | c <;> lia
    have := p2_pos K
    lia
  · have h0 : 1 ≤ m.natAbs := by lia
    unfold V at hv
    obtain ⟨u, hu⟩ : ∃ u : Nat, (e + 500).toNat = u := ⟨_, rfl⟩
    rw [hu, Int.natAbs_mul, ← p2_cast, ← p2_cast, Int.natAbs_natCast] at hv
    have h2 : m.natAbs * 2 ^ u < 2 ^ K := Int.ofNat_lt.mp hv
    have h3 : 2 ^ u ≤ m.natAbs * 2 ^ u := Nat.le_mul_of_pos_left _ h0
    have h4 : u < K := (Nat.pow_lt_pow_iff_right (by decide : 1 < 2)).mp (Nat.lt_of_le_of_lt h3 h2)
    have h5 : m.natAbs * 1 ≤ m.natAbs * 2 ^ u := Nat.mul_le_mul_left _ (Nat.two_pow_pos u)
    refine ⟨by lia, ?_⟩
    rw [← p2_cast]
    lia
/-- a multiple of 2^L has its place there or above -/
theorem bnd_lo {m e : Int} {L : Nat} (h1 : -500 ≤ e) (hc : Can m e) (hv : (2 : Int) ^ L ∣ V m e) (hL : L ≤ 500) : (L : Int) ≤ e + 500 := by
  rcases hc with c | c
  · lia
  · refine Int.not_lt.mp fun hlt => ?_
    obtain ⟨q, hq⟩ := hv
    unfold V at hq
    obtain ⟨u, hu⟩ : ∃ u : Nat, (e + 500).toNat = u := ⟨_, rfl⟩
    rw [hu] at hq
    obtain ⟨d, hd⟩ : ∃ d : Nat, L = d + 1 + u := ⟨L - u - 1, by lia⟩
    rw [hd, p2_add (d + 1) u, Int.mul_right_comm] at hq
    have hm : m = 2 ^ (d + 1) * q := Int.eq_of_mul_eq_mul_right (by have := p2_pos u; lia) hq
    rw [Int.pow_succ, Int.mul_comm (2 ^ d) 2, Int.mul_assoc] at hm
    lia
theorem R_pow_le {p : Nat} (hp : 1 ≤ p) {N : Int} {K : Nat} (h : (N.natAbs : Int) ≤ 2 ^ K) : ((R p N).natAbs : Int) ≤ 2 ^ K := by
  rw [R_abs, ← p2_cast]
  rw [← p2_cast] at h
  have h1 : N.natAbs ≤ 2 ^ K := by lia
  have h2 := rn_mono hp h1
  have h3 : rn p (1 * 2 ^ K) = 1 * 2 ^ K := rn_rep hp (Nat.one_le_two_pow)
  rw [Nat.one_mul] at h3
  lia
theorem R_dvd {p L : Nat} {N : Int} (h : (2 : Int) ^ L ∣ N) : (2 : Int) ^ L ∣ R p N := by
  obtain ⟨q, hq⟩ := h
  rw [hq, Int.mul_comm, R_scale]
  exact Int.dvd_mul_left _ _
theorem FL.lt {p m e : Int} (h : FL p m e) : m.natAbs < 2 ^ p.toNat := by
  have := Nat.two_pow_pos p.toNat
  rcases h.2.2 with c | c
  · omega
  · exact c.2
theorem FL.ok {p m e : Int} (h : FL p m e) : Ok m e := by
  have h1 := h.1
  have h2 := h.2.1
  refine ⟨?_, by lia, by lia⟩
  rcases h.2.2 with c | c
  · exact .inl c
  · exact .inr c.1
theorem p_ok {p : Int} (h1 : 2 ≤ p) (h2 : p ≤ 9) : 1 ≤ p ∧ p ≤ 64 := by lia
theorem p_nat {p : Int} (h1 : 2 ≤ p) : 1 ≤ p.toNat := by lia
theorem FL.rep {p m e : Int} (h : FL p m e) : RepZ p.toNat (V m e) := ⟨m, _, rfl, Nat.le_of_lt h.lt⟩
theorem FL.is {p m e : Int} (h1 : 2 ≤ p) (h : FL p m e) : Is p (m, e) (V m e) := ⟨(R_fix (p_nat h1) h.rep).symm, h.ok.can, by have := h.1; lia⟩
theorem Is.neg {p : Int} {x : Int × Int} {N : Int} (h : Is p x N) : Is p (0 - x.1, x.2) (-N) := by
  obtain ⟨a, b, c⟩ := h
  refine ⟨?_, ?_, c⟩
  · show V (0 - x.1) x.2 = _
    rw [Int.zero_sub, V_neg, a, R_neg]
  · show Can (0 - x.1) x.2
    rcases b with b | b
    · left; lia
    · right; lia
theorem is_zero (p : Int) : Is p (0, 0) 0 := ⟨by rw [R_zero, V_zero], .inl ⟨rfl, rfl⟩, by decide⟩
theorem V_neg' (m e : Int) : V (0 - m) e = -V m e := by rw [Int.zero_sub, V_neg]
/-- of middling size -/
structure Md (K : Nat) (m e : Int) : Prop where
  can : Can m e
  lo : -40 ≤ e
  hi : ((V m e).natAbs : Int) ≤ 2 ^ K
theorem p2_mono {a b : Nat} (h : a ≤ b) : (2 : Int) ^ a ≤ 2 ^ b := by
  rw [← p2_cast, ← p2_cast]
  exact Int.ofNat_le.mpr (Nat.pow_le_pow_right (by decide) h)
theorem p2_lt {a b : Nat} (h : a < b) : (2 : Int) ^ a < 2 ^ b := by
  rw [← p2_cast, ← p2_cast]
  exact Int.ofNat_lt.mpr (Nat.pow_lt_pow_right (by decide) h)
theorem p2_succ (a : Nat) : (2 : Int) ^ (a + 1) = 2 * 2 ^ a := by rw [Int.pow_succ, Int.mul_comm]
theorem V_le {m e : Int} {a K : Nat} (h0 : -500 ≤ e) (h : m.natAbs ≤ 2 ^ a) (he : e + 500 + a ≤ K) : ((V m e).natAbs : Int) ≤ 2 ^ K := by
  obtain ⟨u, hu⟩ : ∃ u : Nat, (e + 500).toNat = u := ⟨_, rfl⟩
  unfold V
  rw [hu, Int.natAbs_mul, ← p2_cast, ← p2_cast, Int.natAbs_natCast]
  have b : m.natAbs * 2 ^ u ≤ 2 ^ a * 2 ^ u := Nat.mul_le_mul_right _ h
  rw [← Nat.pow_add] at b
  exact Int.ofNat_le.mpr (Nat.le_trans b (Nat.pow_le_pow_right (by decide) (by lia)))
theorem FL.md {p m e : Int} (h2 : p ≤ 9) (h : FL p m e) : Md 549 m e := by
  refine ⟨h.ok.can, h.1, ?_⟩
  have a := h.lt
  have b := h.2.1
  have : 2 ^ p.toNat ≤ 2 ^ 9 := Nat.pow_le_pow_right (by decide) (by lia)
  exact V_le (a := 9) (by have := h.1; lia) (by lia) (by lia)
theorem Md.ok {K : Nat} {m e : Int} (h : Md K m e) (hK : 500 ≤ K) (hK2 : K ≤ 650) : Ok m e := by
  have h1 := h.lo
  have h2 := h.hi
  have h3 := p2_lt (Nat.lt_succ_self K)
  have := bnd (K := K + 1) (by lia) h.can (by have := h.hi; lia) (by lia)
  exact ⟨h.can, by lia, by lia⟩
theorem Md.rok {K : Nat} {m e : Int} (h : Md K m e) (hK : 500 ≤ K) (hK2 : K ≤ 900) : rOk m e := by
  have h1 := h.lo
  have h2 := h.hi
  have h3 := p2_lt (Nat.lt_succ_self K)
  have := bnd (K := K + 1) (by lia) h.can (by have := h.hi; lia) (by lia)
  refine ⟨?_, by lia, by lia⟩
  rw [intBits_le_iff]
  have h4 := this.2
  rw [← p2_cast] at h4
  have h5 : 2 ^ (K + 1) ≤ 2 ^ 1000 := Nat.pow_le_pow_right (by decide) (by lia)
  exact Nat.lt_of_lt_of_le (Int.ofNat_lt.mp h4) h5
theorem Md.neg {K : Nat} {m e : Int} (h : Md K m e) : Md K (0 - m) e := by
  refine ⟨?_, h.lo, ?_⟩
  · rcases h.can with b | b
    · left; lia
    · right; lia
  · rw [V_neg', Int.natAbs_neg]; exact h.hi
theorem V_dvd {m e : Int} {L : Nat} (h : (L : Int) ≤ e + 500) : (2 : Int) ^ L ∣ V m e := by
  obtain ⟨d, hd⟩ : ∃ d : Nat, (e + 500).toNat = d + L := ⟨(e + 500).toNat - L, by omega⟩
  unfold V
  rw [hd, p2_add, ← Int.mul_assoc]
  exact Int.dvd_mul_left _ _
theorem Is.md {p : Int} {x : Int × Int} {N : Int} {K : Nat} (hp : 1 ≤ p.toNat) (h : Is p x N) (hd : (2 : Int) ^ 460 ∣ N) (hb : (N.natAbs : Int) ≤ 2 ^ K) : Md K x.1 x.2 := by
  obtain ⟨a, b, c⟩ := h
  refine ⟨b, ?_, ?_⟩
  · have := bnd_lo (L := 460) c b (by rw [a]; exact R_dvd hd) (by decide)
    lia
  · rw [a]; exact R_pow_le hp hb
theorem Md.dvd {K : Nat} {m e : Int} (h : Md K m e) : (2 : Int) ^ 460 ∣ V m e := V_dvd (by have := h.lo; lia)
theorem add_md {p m1 e1 m2 e2 : Int} {K : Nat} (hp : 1 ≤ p ∧ p ≤ 64) (hK : 500 ≤ K) (hK2 : K ≤ 650) (x : Md K m1 e1) (y : Md K m2 e2) :
    Is p (addF p m1 e1 m2 e2) (V m1 e1 + V m2 e2) ∧ Md (K + 1) (addF p m1 e1 m2 e2).1 (addF p m1 e1 m2 e2).2 := by
  have h := add_is hp (x.ok hK hK2) (y.ok hK hK2)
  refine ⟨h, h.md (by omega) (Int.dvd_add x.dvd y.dvd) ?_⟩
  have h1 := x.hi
  have h2 := y.hi
  have := p2_succ K
  omega
/-- bounds of any canonical number -/
theorem can_rok {m e : Int} (h1 : -500 ≤ e) (hc : Can m e) (hb : ((V m e).natAbs : Int) ≤ 2 ^ 900) : rOk m e := by
  have h3 : (2 : Int) ^ 900 < 2 ^ 901 := p2_lt (by decide)
  have := bnd (K := 901) (by lia) hc (by lia) (by lia)
  refine ⟨?_, by lia, by lia⟩
  rw [intBits_le_iff]
  have h4 := this.2
  rw [← p2_cast] at h4
  have h5 : 2 ^ 901 ≤ 2 ^ 1000 := Nat.pow_le_pow_right (by decide) (by decide)
  exact Nat.lt_of_lt_of_le (Int.ofNat_lt.mp h4) h5
theorem sg_bits (n : Int) : Builtin.Int.intBits (sg n) ≤ 64 := by
  rcases sg_cases n with h | h | h <;> rw [h.2] <;> decide
theorem rok_cmp {m1 e1 m2 e2 : Int} (h1 : rOk m1 e1) (h2 : rOk m2 e2) : cmpOk m1 e1 m2 e2 := by
  obtain ⟨a, b, c⟩ := h1
  obtain ⟨d, e, f⟩ := h2
  exact ⟨by lia, by lia, by lia, by lia, by lia, by lia⟩
theorem ord_of {m1 e1 m2 e2 : Int} {a b : Int × Int} (hx : -500 ≤ e1) (hy : -500 ≤ e2) (ca : Can a.1 a.2) (cb : Can b.1 b.2) (la : -500 ≤ a.2) (lb : -500 ≤ b.2)
    (ba : ((V a.1 a.2).natAbs : Int) ≤ 2 ^ 900) (bb : ((V b.1 b.2).natAbs : Int) ≤ 2 ^ 900) (h1 : V m1 e1 ≤ V m2 e2 → V a.1 a.2 ≤ V b.1 b.2) (h2 : V m2 e2 ≤ V m1 e1 → V b.1 b.2 ≤ V a.1 a.2) : OrdP (cmpR m1 e1 m2 e2) a b := by
  unfold OrdP OrdOk
  rw [cmpR_val hx hy, cmpR_val la lb]
  refine ⟨rok_cmp (can_rok la ca ba) (can_rok lb cb bb), IntMulOk.of_left (sg_bits _), ?_, fun h => ?_⟩
  · rcases sg_cases (V m1 e1 - V m2 e2) with ⟨h, e⟩ | ⟨h, e⟩ | ⟨h, e⟩ <;> rw [e] <;> rcases sg_cases (V a.1 a.2 - V b.1 b.2) with ⟨h', e'⟩ | ⟨h', e'⟩ | ⟨h', e'⟩ <;> rw [e'] <;> omega
  · have hz : V m1 e1 = V m2 e2 := by rcases sg_cases (V m1 e1 - V m2 e2) with ⟨h', e⟩ | ⟨h', e⟩ | ⟨h', e⟩ <;> omega
    exact can_uniq ca cb la lb (by have := h1 (by omega); have := h2 (by omega); omega)
theorem R_le {p : Nat} (hp : 1 ≤ p) {N : Int} {K : Nat} (h : (N.natAbs : Int) ≤ 2 ^ K) (hK : K ≤ 900) : ((R p N).natAbs : Int) ≤ 2 ^ 900 := by
  have := R_pow_le hp h
  have := p2_mono hK
  lia
theorem ord_is {p m1 e1 m2 e2 N M : Int} {a b : Int × Int} (hp : 1 ≤ p.toNat) (hx : -500 ≤ e1) (hy : -500 ≤ e2) (ia : Is p a N) (ib : Is p b M) (ba : (N.natAbs : Int) ≤ 2 ^ 900) (bb : (M.natAbs : Int) ≤ 2 ^ 900)
    (h1 : V m1 e1 ≤ V m2 e2 → N ≤ M) (h2 : V m2 e2 ≤ V m1 e1 → M ≤ N) : OrdP (cmpR m1 e1 m2 e2) a b := by
  refine ord_of hx hy ia.2.1 ib.2.1 ia.2.2 ib.2.2 ?_ ?_ (fun h => ?_) (fun h => ?_)
  · rw [ia.1]; exact R_le hp ba (Nat.le_refl _)
  · rw [ib.1]; exact R_le hp bb (Nat.le_refl _)
  · rw [ia.1, ib.1]; exact R_mono hp (h1 h)
  · rw [ia.1, ib.1]; exact R_mono hp (h2 h)
theorem b549 {K : Nat} {m e : Int} (h : Md K m e) (hK : K ≤ 800) : ((V m e).natAbs : Int) ≤ 2 ^ 800 := by
  have := h.hi
  have := p2_mono hK
  lia
theorem b900 {a b : Int} (ha : (a.natAbs : Int) ≤ 2 ^ 800) (hb : (b.natAbs : Int) ≤ 2 ^ 800) : ((a + b).natAbs : Int) ≤ 2 ^ 900 := by
  have h1 : (2 : Int) ^ 801 ≤ 2 ^ 900 := p2_mono (by decide)
  have h2 := p2_succ 800
  omega
section
variable {p m1 e1 m2 e2 m3 e3 : Int} (h1 : 2 ≤ p) (h2 : p ≤ 9) (hx : FL p m1 e1) (hy : FL p m2 e2) (hz : FL p m3 e3)
include h1 h2 hx hy
theorem ord_way' : cmpOk m1 e1 m2 e2 := rok_cmp ((hx.md h2).rok (by decide) (by decide)) ((hy.md h2).rok (by decide) (by decide))
include hz
theorem ord_add' : OrdP (cmpR m1 e1 m2 e2) (addF p m1 e1 m3 e3) (addF p m2 e2 m3 e3) := by
  have a1 := hx.md h2
  have a2 := hy.md h2
  have a3 := hz.md h2
  refine ord_is (p_nat h1) (by have := a1.lo; lia) (by have := a2.lo; lia) (add_md (p_ok h1 h2) (by decide) (by decide) a1 a3).1 (add_md (p_ok h1 h2) (by decide) (by decide) a2 a3).1 ?_ ?_ (by lia) (by lia)
  · exact b900 (b549 a1 (by decide)) (b549 a3 (by decide))
  · exact b900 (b549 a2 (by decide)) (b549 a3 (by decide))
theorem ord_sub' : OrdP (cmpR m1 e1 m2 e2) (addF p m1 e1 (0 - m3) e3) (addF p m2 e2 (0 - m3) e3) := by
  have a1 := hx.md h2
  have a2 := hy.md h2
  have a3 := (hz.md h2).neg
  refine ord_is (p_nat h1) (by have := a1.lo; lia) (by have := a2.lo; lia) (add_md (p_ok h1 h2) (by decide) (by decide) a1 a3).1 (add_md (p_ok h1 h2) (by decide) (by decide) a2 a3).1 ?_ ?_ (by lia) (by lia)
  · exact b900 (b549 a1 (by decide)) (b549 a3 (by decide))
  · exact b900 (b549 a2 (by decide)) (b549 a3 (by decide))
theorem ord_bus' : OrdP (cmpR m1 e1 m2 e2) (addF p m3 e3 (0 - m2) e2) (addF p m3 e3 (0 - m1) e1) := by
  have a1 := (hx.md h2).neg
  have a2 := (hy.md h2).neg
  have a3 := hz.md h2
  refine ord_is (p_nat h1) (by have := a1.lo; lia) (by have := a2.lo; lia) (add_md (p_ok h1 h2) (by decide) (by decide) a3 a2).1 (add_md (p_ok h1 h2) (by decide) (by decide) a3 a1).1 ?_ ?_ ?_ ?_
  · exact b900 (b549 a3 (by decide)) (b549 a2 (by decide))
  · exact b900 (b549 a3 (by decide)) (b549 a1 (by decide))
  · rw [V_neg', V_neg']; lia
  · rw [V_neg', V_neg']; lia
end
theorem mul_bound {p m1 e1 m2 e2 : Int} (h2 : p ≤ 9) (hx : FL p m1 e1) (hy : FL p m2 e2) : ((V (m1 * m2) (e1 + e2)).natAbs : Int) ≤ 2 ^ 900 := by
  have a := hx.lt
  have b := hy.lt
  have c := hx.2.1
  have d := hy.2.1
  have e : 2 ^ p.toNat ≤ 2 ^ 9 := Nat.pow_le_pow_right (by decide) (by lia)
  have f : (m1 * m2).natAbs ≤ 2 ^ (9 + 9) := by
    rw [Int.natAbs_mul, Nat.pow_add]
    exact Nat.mul_le_mul (Nat.le_trans (Nat.le_of_lt a) e) (Nat.le_trans (Nat.le_of_lt b) e)
  have := V_le (K := 900) (e := e1 + e2) (by have := hx.1; have := hy.1; lia) f (by lia)
  exact this
theorem mul_mono {m1 e1 m2 e2 m3 e3 : Int} (hx : -200 ≤ e1) (hy : -200 ≤ e2) (hz : -200 ≤ e3) (h0 : 0 ≤ m3) (h : V m1 e1 ≤ V m2 e2) : V (m1 * m3) (e1 + e3) ≤ V (m2 * m3) (e2 + e3) := by
  have a := V_mul hx hz (m1 := m1) (m2 := m3)
  have b := V_mul hy hz (m1 := m2) (m2 := m3)
  have c : 0 ≤ V m3 e3 := by
    have := V_neg_iff (m := m3) (e := e3)
    lia
  have d : V m1 e1 * V m3 e3 ≤ V m2 e2 * V m3 e3 := Int.mul_le_mul_of_nonneg_right h c
  rw [a, b] at d
  exact Int.le_of_mul_le_mul_right d (p2_pos 500)
section
variable {p m1 e1 m2 e2 m3 e3 : Int} (h1 : 2 ≤ p) (h2 : p ≤ 9) (hx : FL p m1 e1) (hy : FL p m2 e2) (hz : FL p m3 e3)
include h1 h2 hx hy hz
theorem ord_mul' (h0 : 0 ≤ m3) : OrdP (cmpR m1 e1 m2 e2) (mulF p m1 e1 m3 e3) (mulF p m2 e2 m3 e3) := by
  have a1 := hx.ok.lo
  have a2 := hy.ok.lo
  have a3 := hz.ok.lo
  refine ord_is (p_nat h1) (by lia) (by lia) (mul_is (p_ok h1 h2) hx.ok hz.ok) (mul_is (p_ok h1 h2) hy.ok hz.ok) (mul_bound h2 hx hz) (mul_bound h2 hy hz) (mul_mono a1 a2 a3 h0) (mul_mono a2 a1 a3 h0)
theorem ord_lum' (h0 : m3 < 0) : OrdP (cmpR m1 e1 m2 e2) (mulF p m2 e2 m3 e3) (mulF p m1 e1 m3 e3) := by
  have a1 := hx.ok.lo
  have a2 := hy.ok.lo
  have a3 := hz.ok.lo
  have e : ∀ m e' : Int, V (m * m3) e' = -V (m * (-m3)) e' := by
    intro m e'
    rw [Int.mul_neg, V_neg, Int.neg_neg]
  refine ord_is (p_nat h1) (by lia) (by lia) (mul_is (p_ok h1 h2) hy.ok hz.ok) (mul_is (p_ok h1 h2) hx.ok hz.ok) (mul_bound h2 hy hz) (mul_bound h2 hx hz) (fun h => ?_) (fun h => ?_)
  · rw [e m2, e m1]
    have := mul_mono a1 a2 a3 (m3 := -m3) (by lia) h
    lia
  · rw [e m2, e m1]
    have := mul_mono a2 a1 a3 (m3 := -m3) (by lia) h
    lia
end
/-- differences within a factor of two are held -/
theorem rep_of_le {p u : Nat} {A N q : Int} (hN : N = q * 2 ^ u) (hA : A.natAbs ≤ 2 ^ p) (h : N.natAbs ≤ (A * 2 ^ u).natAbs) : RepZ p N := by
  refine ⟨q, u, hN, ?_⟩
  rw [hN, Int.natAbs_mul, Int.natAbs_mul, ← p2_cast, Int.natAbs_natCast] at h
  exact Nat.le_trans (Nat.le_of_mul_le_mul_right h (Nat.two_pow_pos u)) hA
theorem sterbenz {p : Nat} {m1 e1 m2 e2 : Int} (h1 : m1.natAbs ≤ 2 ^ p) (h2 : m2.natAbs ≤ 2 ^ p) (l1 : -500 ≤ e1) (l2 : -500 ≤ e2) (p1 : 0 < V m1 e1) (p2 : 0 < V m2 e2) (c1 : V m2 e2 ≤ 2 * V m1 e1) (c2 : V m1 e1 ≤ 2 * V m2 e2) : RepZ p (V m1 e1 - V m2 e2) := by
  obtain ⟨u, hu⟩ : ∃ u : Nat, (e1 + 500).toNat = u := ⟨_, rfl⟩
  obtain ⟨v, hv⟩ : ∃ v : Nat, (e2 + 500).toNat = v := ⟨_, rfl⟩
  unfold V at p1 p2 c1 c2 ⊢
  rw [hu] at p1 c1 c2 ⊢
  rw [hv] at p2 c1 c2 ⊢
  by_cases hle : u ≤ v
  · obtain ⟨d, rfl⟩ : ∃ d, v = d + u := ⟨v - u, by lia⟩
    have e : m1 * 2 ^ u - m2 * 2 ^ (d + u) = (m1 - m2 * 2 ^ d) * 2 ^ u := by rw [Int.sub_mul, p2_add, Int.mul_assoc]
    refine rep_of_le (A := m1) (u := u) e h1 ?_
    lia
  · obtain ⟨d, rfl⟩ : ∃ d, u = d + v := ⟨u - v, by lia⟩
    have e : m1 * 2 ^ (d + v) - m2 * 2 ^ v = (m1 * 2 ^ d - m2) * 2 ^ v := by rw [Int.sub_mul, p2_add, Int.mul_assoc]
    refine rep_of_le (A := m2) (u := v) e h2 ?_
    lia
theorem atE_V {m e : Int} (h : -80 ≤ e) : V m e = atE m e * 2 ^ 420 := by
  unfold V atE
  have : (e + 500).toNat = (e - -80).toNat + 420 := by lia
  rw [this, p2_add, Int.mul_assoc]
section
variable {p m1 e1 m2 e2 : Int} (h1 : 2 ≤ p) (h2 : p ≤ 9) (hx : FL p m1 e1) (hy : FL p m2 e2)
include h1 h2 hx hy
theorem ex_sub' : rOk (addF p m1 e1 (0 - m2) e2).1 (addF p m1 e1 (0 - m2) e2).2 ∧ -80 ≤ (addF p m1 e1 (0 - m2) e2).2 ∧
    (0 < atE m1 e1 ∧ 0 < atE m2 e2 ∧ atE m2 e2 ≤ 2 * atE m1 e1 ∧ atE m1 e1 ≤ 2 * atE m2 e2 → atE (addF p m1 e1 (0 - m2) e2).1 (addF p m1 e1 (0 - m2) e2).2 = atE m1 e1 - atE m2 e2) := by
  obtain ⟨a, b⟩ := add_md (p_ok h1 h2) (by decide) (by decide) (hx.md h2) (hy.md h2).neg
  have hlo := b.lo
  refine ⟨b.rok (by decide) (by decide), by lia, fun ⟨q1, q2, q3, q4⟩ => ?_⟩
  have l1 := hx.1
  have l2 := hy.1
  have v1 := atE_V (m := m1) (e := e1) (by lia)
  have v2 := atE_V (m := m2) (e := e2) (by lia)
  have v3 := atE_V (m := (addF p m1 e1 (0 - m2) e2).1) (e := (addF p m1 e1 (0 - m2) e2).2) (by lia)
  have hp := p2_pos 420
  have r : RepZ p.toNat (V m1 e1 - V m2 e2) := by
    refine sterbenz (Nat.le_of_lt hx.lt) (Nat.le_of_lt hy.lt) (by lia) (by lia) ?_ ?_ ?_ ?_
    · rw [v1]; exact Int.mul_pos q1 hp
    · rw [v2]; exact Int.mul_pos q2 hp
    · rw [v1, v2, ← Int.mul_assoc]; exact Int.mul_le_mul_of_nonneg_right q3 (Int.le_of_lt hp)
    · rw [v1, v2, ← Int.mul_assoc]; exact Int.mul_le_mul_of_nonneg_right q4 (Int.le_of_lt hp)
  have e := a.1
  have e' : V m1 e1 + V (0 - m2) e2 = V m1 e1 - V m2 e2 := by rw [V_neg']; lia
  rw [e', R_fix (p_nat h1) r, v3, v1, v2, ← Int.sub_mul] at e
  exact Int.eq_of_mul_eq_mul_right (by lia) e
end
/-- the sum's loss: whole numbers, the second no greater than the first -/
theorem fast_two {p : Nat} (hp : 1 ≤ p) {A B : Int} {d : Nat} (hA : A.natAbs < 2 ^ p) (hB : B.natAbs < 2 ^ p) (h : B.natAbs ≤ (A * 2 ^ d).natAbs) (hA0 : 0 ≤ A) :
    RepZ p (R p (A * 2 ^ d + B) - A * 2 ^ d) ∧ RepZ p (A * 2 ^ d + B - R p (A * 2 ^ d + B)) := by
  have hpd := p2_pos d
  have ha : 0 ≤ A * 2 ^ d := Int.mul_nonneg hA0 (Int.le_of_lt hpd)
  have hr : RepZ p (A * 2 ^ d) := ⟨A, d, rfl, Nat.le_of_lt hA⟩
  have hn := R_near hp (N := A * 2 ^ d + B) (c := A * 2 ^ d) hr ⟨by lia, ha⟩
  have hT := R_isRep hp (A * 2 ^ d + B)
  have whole : ∀ {N : Int}, N.natAbs ≤ 2 ^ p → RepZ p N := fun {N} h => ⟨N, 0, by simp, h⟩
  refine ⟨?_, whole (by lia)⟩
  by_cases hd : d = 0
  · subst hd
    rw [Int.pow_zero, Int.mul_one] at *
    refine whole ?_
    have h0 : 0 ≤ R p (A + B) := R_nonneg (by lia)
    have h2 : R p (A + B) ≤ 2 * A := by
      have r2 : RepZ p (2 * A) := ⟨A, 1, by lia, Nat.le_of_lt hA⟩
      have := R_mono hp (N := A + B) (M := 2 * A) (by lia)
      rw [R_fix hp r2] at this
      exact this
    lia
  · obtain ⟨d', rfl⟩ : ∃ d', d = d' + 1 := ⟨d - 1, by lia⟩
    by_cases hs : szN (A * 2 ^ (d' + 1) + B).natAbs ≤ p
    · have : R p (A * 2 ^ (d' + 1) + B) = A * 2 ^ (d' + 1) + B := by rw [R_sg, rn_small hs, sg_mul_abs]
      rw [this]
      exact whole (by lia)
    · have hev : ∃ z : Int, R p (A * 2 ^ (d' + 1) + B) = 2 * z := by
        obtain ⟨g, hg⟩ : ∃ g, szN (A * 2 ^ (d' + 1) + B).natAbs - p = g + 1 := ⟨szN (A * 2 ^ (d' + 1) + B).natAbs - p - 1, by lia⟩
        rw [R_sg]
        generalize sg (A * 2 ^ (d' + 1) + B) = σ
        have : (rn p (A * 2 ^ (d' + 1) + B).natAbs : Int) = 2 * ((rdg (g + 1) (A * 2 ^ (d' + 1) + B).natAbs * 2 ^ g : Nat) : Int) := by
          unfold rn
          rw [hg, Nat.pow_succ, ← Nat.mul_assoc]
          lia
        rw [this]
        exact ⟨_, Int.mul_left_comm _ _ _⟩
      obtain ⟨z, hz⟩ := hev
      rw [hz]
      have e2 : A * 2 ^ (d' + 1) = 2 * (A * 2 ^ d') := by rw [p2_succ, Int.mul_left_comm]
      refine ⟨z - A * 2 ^ d', 1, by rw [e2]; lia, ?_⟩
      rw [hz, e2] at hn
      lia
theorem RepZ.neg {p : Nat} {N : Int} (h : RepZ p N) : RepZ p (-N) := by
  obtain ⟨k, j, rfl, hk⟩ := h
  exact ⟨-k, j, (Int.neg_mul _ _).symm, by lia⟩
theorem RepZ.scale {p : Nat} {N : Int} (u : Nat) (h : RepZ p N) : RepZ p (N * 2 ^ u) := by
  obtain ⟨k, j, rfl, hk⟩ := h
  exact ⟨k, j + u, by rw [p2_add, Int.mul_assoc], hk⟩
theorem fast_two' {p : Nat} (hp : 1 ≤ p) {A B : Int} {d : Nat} (hA : A.natAbs < 2 ^ p) (hB : B.natAbs < 2 ^ p) (h : B.natAbs ≤ (A * 2 ^ d).natAbs) :
    RepZ p (R p (A * 2 ^ d + B) - A * 2 ^ d) ∧ RepZ p (A * 2 ^ d + B - R p (A * 2 ^ d + B)) := by
  by_cases h0 : 0 ≤ A
  · exact fast_two hp hA hB h h0
  · have := fast_two hp (A := -A) (B := -B) (d := d) (by omega) (by omega) (by rw [Int.neg_mul]; omega) (by omega)
    have e : -A * 2 ^ d + -B = -(A * 2 ^ d + B) := by rw [Int.neg_mul]; omega
    rw [e, R_neg, Int.neg_mul] at this
    refine ⟨?_, ?_⟩
    · have := this.1.neg
      rw [show -(-R p (A * 2 ^ d + B) - -(A * 2 ^ d)) = R p (A * 2 ^ d + B) - A * 2 ^ d by omega] at this
      exact this
    · have := this.2.neg
      rw [show -(-(A * 2 ^ d + B) - -R p (A * 2 ^ d + B)) = A * 2 ^ d + B - R p (A * 2 ^ d + B) by omega] at this
      exact this
theorem fast_V {p : Nat} (hp : 1 ≤ p) {ma ea mb eb : Int} (hA : ma.natAbs < 2 ^ p) (hB : mb.natAbs < 2 ^ p) (h : (V mb eb).natAbs ≤ (V ma ea).natAbs) :
    RepZ p (R p (V ma ea + V mb eb) - V ma ea) ∧ RepZ p (V ma ea + V mb eb - R p (V ma ea + V mb eb)) := by
  obtain ⟨u, hu⟩ : ∃ u : Nat, (ea + 500).toNat = u := ⟨_, rfl⟩
  obtain ⟨v, hv⟩ : ∃ v : Nat, (eb + 500).toNat = v := ⟨_, rfl⟩
  unfold V at h ⊢
  rw [hu, hv] at h ⊢
  have fin : ∀ {A B : Int} {d w : Nat}, A.natAbs < 2 ^ p → B.natAbs < 2 ^ p → B.natAbs ≤ (A * 2 ^ d).natAbs →
      RepZ p (R p (A * 2 ^ d * 2 ^ w + B * 2 ^ w) - A * 2 ^ d * 2 ^ w) ∧ RepZ p (A * 2 ^ d * 2 ^ w + B * 2 ^ w - R p (A * 2 ^ d * 2 ^ w + B * 2 ^ w)) := by
    intro A B d w a b c
    have := fast_two' hp a b c
    rw [← Int.add_mul, R_scale, ← Int.sub_mul, ← Int.sub_mul]
    exact ⟨this.1.scale w, this.2.scale w⟩
  by_cases hle : v ≤ u
  · obtain ⟨d, rfl⟩ : ∃ d, u = d + v := ⟨u - v, by lia⟩
    rw [p2_add, ← Int.mul_assoc] at h ⊢
    refine fin hA hB ?_
    rw [Int.natAbs_mul, Int.natAbs_mul (ma * 2 ^ d)] at h
    refine Nat.le_of_mul_le_mul_right h ?_
    rw [← p2_cast, Int.natAbs_natCast]
    exact Nat.two_pow_pos v
  · obtain ⟨d, rfl⟩ : ∃ d, v = d + u := ⟨v - u, by lia⟩
    rw [p2_add, ← Int.mul_assoc] at h ⊢
    have hb : (mb * 2 ^ d).natAbs ≤ ma.natAbs := by
      rw [Int.natAbs_mul, Int.natAbs_mul ma] at h
      refine Nat.le_of_mul_le_mul_right h ?_
      rw [← p2_cast, Int.natAbs_natCast]
      exact Nat.two_pow_pos u
    have := fin (A := ma) (B := mb * 2 ^ d) (d := 0) (w := u) hA (by lia) (by rw [Int.pow_zero, Int.mul_one]; exact hb)
    rw [Int.pow_zero, Int.mul_one] at this
    exact this
theorem Md.mono {K K' : Nat} {m e : Int} (h : Md K m e) (hK : K ≤ K') : Md K' m e := ⟨h.can, h.lo, Int.le_trans h.hi (p2_mono hK)⟩
theorem absI_eq (n : Int) : absI n = (n.natAbs : Int) := abs_eq n
section
variable {p ma ea mb eb : Int} (h1 : 2 ≤ p) (h2 : p ≤ 9) (hx : FL p ma ea) (hy : FL p mb eb)
include h1 h2 hx hy
theorem ex_two' (h : absI (atE mb eb) ≤ absI (atE ma ea)) : TwoOk p ma ea mb eb := by
  rw [absI_eq, absI_eq] at h
  have l1 := hx.1
  have l2 := hy.1
  have va := atE_V (m := ma) (e := ea) (by lia)
  have vb := atE_V (m := mb) (e := eb) (by lia)
  have hle : (V mb eb).natAbs ≤ (V ma ea).natAbs := by
    rw [va, vb, Int.natAbs_mul (atE mb eb), Int.natAbs_mul (atE ma ea)]
    exact Nat.mul_le_mul_right _ (show (atE mb eb).natAbs ≤ (atE ma ea).natAbs by lia)
  obtain ⟨f1, f2⟩ := fast_V (p_nat h1) hx.lt hy.lt hle
  obtain ⟨it, mt⟩ := add_md (p_ok h1 h2) (by decide) (by decide) (hx.md h2) (hy.md h2)
  unfold TwoOk
  generalize addF p ma ea mb eb = T at *
  obtain ⟨iz, mz⟩ := add_md (p_ok h1 h2) (by decide) (by decide) mt ((hx.md h2).neg.mono (K' := 550) (by decide))
  generalize addF p T.1 T.2 (0 - ma) ea = Z at *
  obtain ⟨il, ml⟩ := add_md (p_ok h1 h2) (by decide) (by decide) ((hy.md h2).mono (K' := 551) (by decide)) mz.neg
  generalize addF p mb eb (0 - Z.1) Z.2 = Y at *
  have t1 := it.1
  have z1 := iz.1
  have y1 := il.1
  rw [← t1] at f1 f2
  rw [V_neg', ← Int.sub_eq_add_neg, R_fix (p_nat h1) f1] at z1
  rw [V_neg', z1, show V mb eb + -(V T.1 T.2 - V ma ea) = V ma ea + V mb eb - V T.1 T.2 by lia, R_fix (p_nat h1) f2] at y1
  have a1 := mt.lo
  have a2 := ml.lo
  refine ⟨mt.rok (by decide) (by decide), by lia, mz.rok (by decide) (by decide), ml.rok (by decide) (by decide), by lia, ?_⟩
  have vt := atE_V (m := T.1) (e := T.2) (by lia)
  have vy := atE_V (m := Y.1) (e := Y.2) (by lia)
  have : (atE T.1 T.2 + atE Y.1 Y.2) * 2 ^ 420 = (atE ma ea + atE mb eb) * 2 ^ 420 := by
    rw [Int.add_mul, Int.add_mul, ← va, ← vb, ← vt, ← vy]
    lia
  exact Int.eq_of_mul_eq_mul_right (by have := p2_pos 420; lia) this
end
/-- the quotient, twice, and whether something is left -/
def stN (n b : Nat) : Nat := 2 * (n / b) + (if n % b ≠ 0 then 1 else 0)
theorem stN_mono {n m : Nat} (b : Nat) (h : n ≤ m) : stN n b ≤ stN m b := by
  have hd : n / b ≤ m / b := Nat.div_le_div_right h
  unfold stN
  by_cases e : n / b = m / b
  · have h1 := Nat.div_add_mod n b
    have h2 := Nat.div_add_mod m b
    rw [e] at h1
    rw [e]
    generalize b * (m / b) = z at *
    split <;> split <;> lia
  · split <;> split <;> lia
theorem stN_le (n b : Nat) : stN n b ≤ 2 * n + 1 := by
  have := Nat.div_le_self n b
  unfold stN
  split <;> lia
theorem stN_scale {p n b : Nat} (k : Nat) (hb : 0 < b) (hq : 2 ^ p ≤ n / b) : rn p (stN (n * 2 ^ k) b) = rn p (stN n b * 2 ^ k) := by
  have hk := Nat.two_pow_pos k
  have hdm := Nat.div_add_mod n b
  have hlt := Nat.mod_lt n hb
  have e1 : n * 2 ^ k = b * (n / b * 2 ^ k) + n % b * 2 ^ k := by
    have := congrArg (· * 2 ^ k) hdm
    simp only [Nat.add_mul] at this
    rw [← this, Nat.mul_assoc]
  have e2 : n * 2 ^ k / b = n / b * 2 ^ k + n % b * 2 ^ k / b := by
    rw [e1, Nat.mul_add_div hb]
  have e3 : n * 2 ^ k % b = n % b * 2 ^ k % b := by
    rw [e1, Nat.mul_add_mod]
  by_cases hr : n % b = 0
  · unfold stN
    rw [e2, e3, hr]
    simp [Nat.mul_assoc]
  · have hrlt : n % b * 2 ^ k / b < 2 ^ k := by
      refine (Nat.div_lt_iff_lt_mul hb).mpr ?_
      rw [Nat.mul_comm (2 ^ k)]
      exact Nat.mul_lt_mul_of_pos_right hlt hk
    have hpos : 0 < 2 * (n % b * 2 ^ k / b) + (if n % b * 2 ^ k % b ≠ 0 then 1 else 0) := by
      have h1 := Nat.div_add_mod (n % b * 2 ^ k) b
      have h2 : 0 < n % b * 2 ^ k := Nat.mul_pos (by lia) hk
      by_cases hz : n % b * 2 ^ k % b = 0
      · have : n % b * 2 ^ k / b ≠ 0 := by
          intro hz2
          rw [hz, hz2, Nat.mul_zero] at h1
          lia
        lia
      · rw [if_pos hz]; lia
    have e4 : stN (n * 2 ^ k) b = n / b * 2 ^ (k + 1) + (2 * (n % b * 2 ^ k / b) + (if n % b * 2 ^ k % b ≠ 0 then 1 else 0)) := by
      unfold stN
      rw [e2, e3, Nat.pow_succ, ← Nat.mul_assoc]
      lia
    have e5 : stN n b * 2 ^ k = n / b * 2 ^ (k + 1) + 2 ^ k := by
      unfold stN
      rw [if_pos hr, Nat.add_mul, Nat.one_mul, Nat.pow_succ, Nat.mul_comm 2, Nat.mul_assoc, Nat.mul_comm 2]
    rw [e4, e5]
    refine rn_const hq hpos ?_ hk ?_
    · rw [Nat.pow_succ]
      split <;> lia
    · rw [Nat.pow_succ]; lia
def stZ (N : Int) (b : Nat) : Int := if N < 0 then -(stN N.natAbs b : Int) else (stN N.natAbs b : Int)
theorem stN_zero (b : Nat) : stN 0 b = 0 := by unfold stN; simp
theorem stZ_sg (N : Int) (b : Nat) : stZ N b = sg N * (stN N.natAbs b : Int) := by
  unfold stZ
  rcases sg_cases N with ⟨h, e⟩ | ⟨h, e⟩ | ⟨h, e⟩ <;> rw [e]
  · rw [if_neg (by lia)]; lia
  · subst h; simp [stN_zero]
  · rw [if_pos h]; lia
theorem stZ_neg (N : Int) (b : Nat) : stZ (-N) b = -stZ N b := by
  unfold stZ
  rw [Int.natAbs_neg]
  rcases Int.lt_trichotomy N 0 with h | h | h
  · rw [if_neg (by lia), if_pos h]; lia
  · subst h; simp [stN_zero]
  · rw [if_pos (by lia), if_neg (by lia)]
theorem stZ_mono {N M : Int} (b : Nat) (h : N ≤ M) : stZ N b ≤ stZ M b := by
  unfold stZ
  by_cases hN : N < 0
  · rw [if_pos hN]
    by_cases hM : M < 0
    · rw [if_pos hM]
      have := stN_mono b (n := M.natAbs) (m := N.natAbs) (by lia)
      lia
    · rw [if_neg hM]; lia
  · rw [if_neg hN, if_neg (by lia)]
    have := stN_mono b (n := N.natAbs) (m := M.natAbs) (by lia)
    lia
theorem stZ_le (N : Int) (b : Nat) : (stZ N b).natAbs ≤ 2 * N.natAbs + 1 := by
  have := stN_le N.natAbs b
  unfold stZ
  split <;> lia
theorem stZ_one (N : Int) : stZ N 1 = 2 * N := by
  unfold stZ stN
  rw [Nat.div_one, Nat.mod_one]
  split <;> simp <;> lia
theorem stZ_self {b : Nat} (hb : 0 < b) {K : Int} (hK : 0 ≤ K) : stZ (b * K) b = 2 * K := by
  obtain ⟨k, rfl⟩ := nat_of hK
  unfold stZ
  rw [if_neg (by rw [← Int.natCast_mul]; lia), ← Int.natCast_mul, Int.natAbs_natCast]
  unfold stN
  rw [Nat.mul_div_cancel_left _ hb, Nat.mul_mod_right]
  simp
theorem R_stZ_scale {p : Nat} {N : Int} {b : Nat} (k : Nat) (hb : 0 < b) (hq : N = 0 ∨ 2 ^ p ≤ N.natAbs / b) : R p (stZ (N * 2 ^ k) b) = R p (stZ N b * 2 ^ k) := by
  rcases hq with h | hq
  · subst h
    have : stZ 0 b = 0 := by unfold stZ; simp [stN_zero]
    rw [Int.zero_mul, this, Int.zero_mul]
  · have key : ∀ n : Nat, 2 ^ p ≤ n / b → R p (stZ ((n : Int) * 2 ^ k) b) = R p (stZ (n : Int) b * 2 ^ k) := by
      intro n hq
      unfold stZ
      rw [← p2_cast, ← Int.natCast_mul, if_neg (by lia), if_neg (by lia), Int.natAbs_natCast, Int.natAbs_natCast, ← Int.natCast_mul, R_nat, R_nat, stN_scale k hb hq]
    by_cases hN : 0 ≤ N
    · obtain ⟨n, rfl⟩ := nat_of hN
      exact key n hq
    · obtain ⟨n, hn⟩ := nat_of (N := -N) (by lia)
      have := key n (by rw [show N.natAbs = n by lia] at hq; exact hq)
      rw [← hn, Int.neg_mul, stZ_neg, stZ_neg, Int.neg_mul, R_neg, R_neg] at this
      lia
theorem sticky_eq (n b : Nat) : sticky (((n : Int)).fdiv b) ((((n : Int)).fmod b) != 0) = (stN n b : Int) := by
  have e1 : ((n : Int)).fdiv b = ((n / b : Nat) : Int) := by
    rw [Int.fdiv_eq_ediv_of_nonneg _ (Int.natCast_nonneg _)]; rfl
  have e2 : ((n : Int)).fmod b = ((n % b : Nat) : Int) := by
    rw [Int.fmod_eq_emod_of_nonneg _ (Int.natCast_nonneg _)]; rfl
  rw [e1, e2]
  unfold sticky stN
  by_cases h : n % b = 0
  · simp [h]
  · have : (((n % b : Nat) : Int) != 0) = true := by simp; lia
    rw [if_pos this, if_pos h]
    lia
theorem quot_big {p : Nat} {n b : Nat} (hb : 0 < b) (hn : n ≠ 0) (h : p + szN b < szN n) : 2 ^ p ≤ n / b := by
  have a1 := szN_le hn
  have a2 := szN_lt b
  refine (Nat.le_div_iff_mul_le hb).mpr ?_
  have c : 2 ^ p * b ≤ 2 ^ p * 2 ^ szN b := Nat.mul_le_mul_left _ (Nat.le_of_lt a2)
  rw [← Nat.pow_add] at c
  have d : 2 ^ (p + szN b) ≤ 2 ^ (szN n - 1) := Nat.pow_le_pow_right (by decide) (by lia)
  lia
/-- the rounded quotient of two whole numbers -/
theorem rnd_val {p a : Int} {b : Nat} (hp : 1 ≤ p ∧ p ≤ 64) (hb : 0 < b) (s0 : 0 ≤ p + 2 + sz b - sz a) (s1 : p + 2 + sz b - sz a ≤ 100) :
    V (rndF p a b).1 (rndF p a b).2 = R p.toNat (stZ (a * 2 ^ 499) b) ∧ Can (rndF p a b).1 (rndF p a b).2 ∧ -101 ≤ (rndF p a b).2 := by
  unfold rndF
  by_cases ha : a = 0
  · rw [if_pos ha, ha, Int.zero_mul]
    have : stZ 0 b = 0 := by unfold stZ; simp [stN_zero]
    rw [this, R_zero]
    exact ⟨V_zero _, .inl ⟨rfl, rfl⟩, by decide⟩
  · rw [if_neg ha, if_pos s0]
    obtain ⟨s, hs⟩ : ∃ s : Nat, p + 2 + sz b - sz a = (s : Int) := nat_of s0
    rw [hs, abs_eq]
    have e0 : ((s : Int)).toNat = s := by lia
    rw [e0, ← p2_cast, ← Int.natCast_mul, sticky_eq]
    obtain ⟨k, hk⟩ : ∃ k : Nat, 499 = s + k := ⟨499 - s, by lia⟩
    obtain ⟨i1, i2, i3⟩ := shr_is (p := p) (m := sg a * (stN (a.natAbs * 2 ^ s) b : Int)) (e := 0 - (s : Int) - 1) hp.1 (by lia)
    have e1 : stZ (a * 2 ^ s) b = sg a * (stN (a.natAbs * 2 ^ s) b : Int) := by
      rw [stZ_sg]
      have q1 : (a * 2 ^ s).natAbs = a.natAbs * 2 ^ s := by rw [Int.natAbs_mul, ← p2_cast, Int.natAbs_natCast]
      have q2 : sg (a * 2 ^ s) = sg a := by
        rcases sg_cases a with ⟨h, e⟩ | ⟨h, e⟩ | ⟨h, e⟩
        · rw [e, sg_pos (Int.mul_pos h (p2_pos s))]
        · exact absurd h ha
        · rw [e, sg_neg (Int.mul_neg_of_neg_of_pos h (p2_pos s))]
      rw [q1, q2]
    have hbig : 2 ^ p.toNat ≤ (a * 2 ^ s).natAbs / b := by
      have q1 : (a * 2 ^ s).natAbs = a.natAbs * 2 ^ s := by rw [Int.natAbs_mul, ← p2_cast, Int.natAbs_natCast]
      rw [q1]
      have z1 := sz_eq a
      have z2 := sz_eq b
      rw [Int.natAbs_natCast] at z2
      have := Nat.two_pow_pos s
      refine quot_big hb (Nat.mul_ne_zero (by lia) (by lia)) ?_
      rw [szN_mul (by lia)]
      lia
    have hV : V (sg a * (stN (a.natAbs * 2 ^ s) b : Int)) (0 - (s : Int) - 1) = stZ (a * 2 ^ s) b * 2 ^ k := by
      rw [e1]
      unfold V
      rw [show (0 - (s : Int) - 1 + 500).toNat = k by lia]
    rw [hV] at i1
    refine ⟨?_, i2, ?_⟩
    · rw [i1, hk, p2_add, ← Int.mul_assoc, R_stZ_scale k hb (.inr hbig)]
    · have := bnd_lo (L := k) i3 i2 (by rw [i1]; exact R_dvd (Int.dvd_mul_left _ _)) (by lia)
      lia
theorem sz_bound {p : Nat} {m : Int} (h : m.natAbs < 2 ^ p) : 0 ≤ sz m ∧ sz m ≤ p := by
  rw [sz_eq]
  refine ⟨by lia, ?_⟩
  by_cases h0 : m.natAbs = 0
  · rw [h0]; simp [szN]
  · have a := szN_le h0
    have b := szN_pos h0
    have := (Nat.pow_lt_pow_iff_right (by decide : 1 < 2)).mp (Nat.lt_of_le_of_lt a h)
    lia
theorem div_val {p m1 e1 m2 e2 : Int} (h1 : 2 ≤ p) (h2 : p ≤ 9) (hx : FL p m1 e1) (hy : FL p m2 e2) (h0 : m2 ≠ 0) :
    V (divF p m1 e1 m2 e2).1 (divF p m1 e1 m2 e2).2 * 2 ^ (e2 + 100).toNat = R p.toNat (stZ (V m1 e1 * 2 ^ 99 * sg m2) m2.natAbs) ∧ Can (divF p m1 e1 m2 e2).1 (divF p m1 e1 m2 e2).2 ∧ -500 ≤ (divF p m1 e1 m2 e2).2 := by
  have l1 := hx.1
  have l2 := hx.2.1
  have l3 := hy.1
  have l4 := hy.2.1
  have hb : 0 < m2.natAbs := by lia
  have ha : (m1 * sg m2).natAbs = m1.natAbs := by
    rw [Int.natAbs_mul]
    rcases sg_cases m2 with ⟨h, e⟩ | ⟨h, e⟩ | ⟨h, e⟩
    · rw [e]; simp
    · exact absurd h h0
    · rw [e]; simp
  have z1 := sz_bound hx.lt
  have z2 := sz_bound hy.lt
  have z3 : sz (m1 * sg m2) = sz m1 := by rw [sz_eq, sz_eq, ha]
  have z4 : sz ((m2.natAbs : Nat) : Int) = sz m2 := by rw [sz_eq, sz_eq, Int.natAbs_natCast]
  obtain ⟨r1, r2, r3⟩ := rnd_val (p := p) (a := m1 * sg m2) (b := m2.natAbs) (p_ok h1 h2) hb (by rw [z3, z4]; lia) (by rw [z3, z4]; lia)
  unfold divF
  rw [abs_eq]
  generalize rndF p (m1 * sg m2) (m2.natAbs : Int) = r at *
  obtain ⟨c1, c2, c3⟩ := lean_val (m := r.1) (e := r.2 + e1 - e2) (by lia)
  refine ⟨?_, c2, c3⟩
  rw [c1]
  obtain ⟨u, hu⟩ : ∃ u : Nat, e2 + 100 = (u : Int) := nat_of (by lia)
  obtain ⟨v, hv⟩ : ∃ v : Nat, e1 + 100 = (v : Int) := nat_of (by lia)
  have e : (e2 + 100).toNat = u := by lia
  rw [e, V_up (by lia), show r.2 + e1 - e2 + (u : Int) = r.2 + v by lia, ← V_up (by lia), r1, ← R_scale]
  have hq : m1 * sg m2 * 2 ^ 499 = 0 ∨ 2 ^ p.toNat ≤ (m1 * sg m2 * 2 ^ 499).natAbs / m2.natAbs := by
    by_cases hz : m1 = 0
    · left; rw [hz, Int.zero_mul, Int.zero_mul]
    · right
      have q1 : (m1 * sg m2 * 2 ^ 499).natAbs = m1.natAbs * 2 ^ 499 := by rw [Int.natAbs_mul, ha, ← p2_cast, Int.natAbs_natCast]
      rw [q1]
      have z5 := sz_eq m2
      have := Nat.two_pow_pos 499
      refine quot_big hb (Nat.mul_ne_zero (by lia) (by lia)) ?_
      rw [szN_mul (by lia)]
      lia
  rw [← R_stZ_scale v hb hq]
  congr 2
  unfold V
  have e3 : (e1 + 500).toNat + 99 = 499 + v := by lia
  rw [Int.mul_assoc (m1 * sg m2), ← p2_add, Int.mul_assoc m1 (2 ^ (e1 + 500).toNat), ← p2_add, e3, Int.mul_right_comm]
theorem sq_succ (q : Nat) : (q + 1) * (q + 1) = q * q + 2 * q + 1 := by
  rw [Nat.mul_add, Nat.add_mul]; lia
theorem isqN_succ (n : Nat) : isqN (n + 1) = if (isqN n + 1) * (isqN n + 1) ≤ n + 1 then isqN n + 1 else isqN n := rfl
theorem isqN_spec : ∀ n : Nat, isqN n * isqN n ≤ n ∧ n < (isqN n + 1) * (isqN n + 1)
  | 0 => by decide
  | n + 1 => by
    have ih := isqN_spec n
    have s1 := sq_succ (isqN n)
    have s2 := sq_succ (isqN n + 1)
    rw [isqN_succ]
    by_cases h : (isqN n + 1) * (isqN n + 1) ≤ n + 1
    · rw [if_pos h]
      refine ⟨h, ?_⟩
      rw [s2]
      lia
    · rw [if_neg h]
      lia
theorem sq_lt {a b : Nat} (h : a * a < (b + 1) * (b + 1)) : a ≤ b := by
  refine Nat.le_of_not_lt fun hlt => ?_
  have : (b + 1) * (b + 1) ≤ a * a := Nat.mul_le_mul hlt hlt
  omega
theorem isqN_ge {f n : Nat} (h : f * f ≤ n) : f ≤ isqN n := sq_lt (Nat.lt_of_le_of_lt h (isqN_spec n).2)
theorem isqN_le {f n : Nat} (h : n < (f + 1) * (f + 1)) : isqN n ≤ f := sq_lt (Nat.lt_of_le_of_lt (isqN_spec n).1 h)
theorem isqN_mono {n m : Nat} (h : n ≤ m) : isqN n ≤ isqN m := isqN_ge (Nat.le_trans (isqN_spec n).1 h)
def stQ (n : Nat) : Nat := 2 * isqN n + (if isqN n * isqN n ≠ n then 1 else 0)
theorem stQ_mono {n m : Nat} (h : n ≤ m) : stQ n ≤ stQ m := by
  have hd := isqN_mono h
  have a := isqN_spec n
  have b := isqN_spec m
  unfold stQ
  by_cases e : isqN n = isqN m
  · rw [e] at a ⊢
    split <;> split <;> lia
  · split <;> split <;> lia
theorem stQ_scale {p n : Nat} (k : Nat) (hq : 2 ^ p ≤ isqN n) : rn p (stQ (n * (2 ^ k * 2 ^ k))) = rn p (stQ n * 2 ^ k) := by
  have hk := Nat.two_pow_pos k
  have a := isqN_spec n
  have hkk : 0 < 2 ^ k * 2 ^ k := Nat.mul_pos hk hk
  have sq : ∀ x : Nat, x * 2 ^ k * (x * 2 ^ k) = x * x * (2 ^ k * 2 ^ k) := fun x => Nat.mul_mul_mul_comm _ _ _ _
  have lo : isqN n * 2 ^ k ≤ isqN (n * (2 ^ k * 2 ^ k)) := isqN_ge (by rw [sq]; exact Nat.mul_le_mul_right _ a.1)
  have hi : isqN (n * (2 ^ k * 2 ^ k)) < (isqN n + 1) * 2 ^ k := by
    refine Nat.lt_of_not_le fun h => ?_
    have h1 := Nat.mul_le_mul h h
    rw [sq] at h1
    have h2 : n * (2 ^ k * 2 ^ k) < (isqN n + 1) * (isqN n + 1) * (2 ^ k * 2 ^ k) := Nat.mul_lt_mul_of_pos_right a.2 hkk
    have h3 := (isqN_spec (n * (2 ^ k * 2 ^ k))).1
    lia
  obtain ⟨j, hj⟩ : ∃ j, isqN (n * (2 ^ k * 2 ^ k)) = isqN n * 2 ^ k + j := ⟨_, (Nat.add_sub_cancel' lo).symm⟩
  have hjlt : j < 2 ^ k := by rw [hj, Nat.add_mul, Nat.one_mul] at hi; lia
  by_cases hr : isqN n * isqN n = n
  · have hj0 : isqN (n * (2 ^ k * 2 ^ k)) = isqN n * 2 ^ k := by
      refine Nat.le_antisymm (isqN_le ?_) lo
      have := sq (isqN n)
      rw [hr] at this
      rw [sq_succ, this]
      lia
    have e1 : stQ (n * (2 ^ k * 2 ^ k)) = stQ n * 2 ^ k := by
      unfold stQ
      rw [hj0, sq, hr]
      simp [Nat.mul_assoc]
    rw [e1]
  · have e4 : stQ (n * (2 ^ k * 2 ^ k)) = isqN n * 2 ^ (k + 1) + (2 * j + (if isqN (n * (2 ^ k * 2 ^ k)) * isqN (n * (2 ^ k * 2 ^ k)) ≠ n * (2 ^ k * 2 ^ k) then 1 else 0)) := by
      unfold stQ
      generalize (if isqN (n * (2 ^ k * 2 ^ k)) * isqN (n * (2 ^ k * 2 ^ k)) ≠ n * (2 ^ k * 2 ^ k) then 1 else 0) = t
      rw [hj, Nat.pow_succ, ← Nat.mul_assoc (isqN n)]
      lia
    have e5 : stQ n * 2 ^ k = isqN n * 2 ^ (k + 1) + 2 ^ k := by
      unfold stQ
      rw [if_pos hr, Nat.add_mul, Nat.one_mul, Nat.pow_succ, Nat.mul_comm 2, Nat.mul_assoc, Nat.mul_comm 2]
    have hpos : 0 < 2 * j + (if isqN (n * (2 ^ k * 2 ^ k)) * isqN (n * (2 ^ k * 2 ^ k)) ≠ n * (2 ^ k * 2 ^ k) then 1 else 0) := by
      by_cases hz : j = 0
      · rw [hz, Nat.add_zero] at hj
        rw [if_pos]
        · lia
        · rw [hj, sq]
          intro h
          exact hr (Nat.eq_of_mul_eq_mul_right hkk h)
      · lia
    rw [e4, e5]
    refine rn_const hq hpos ?_ hk ?_
    · rw [Nat.pow_succ]
      split <;> lia
    · rw [Nat.pow_succ]; lia
theorem stickyQ (n : Nat) : sticky (isq n) (isq n * isq n != (n : Int)) = (stQ n : Int) := by
  unfold isq
  have e : ((n : Int)).toNat = n := by lia
  rw [e]
  unfold sticky stQ
  rw [← Int.natCast_mul]
  by_cases h : isqN n * isqN n = n
  · simp [h]
  · have : (((isqN n * isqN n : Nat) : Int) != (n : Int)) = true := by simp; lia
    rw [if_pos this, if_pos h]
    lia
/-- the shift of the root: so many that the rest is even -/
theorem sqSh_spec {p m e : Int} (hp : 1 ≤ p ∧ p ≤ 64) : ∃ s : Nat, ∃ h : Int, sqSh p m e = s ∧ e - s = 2 * h ∧ 2 * (p + 2) ≤ sz m + s ∧ (s : Int) ≤ 2 * (p + 2) + 1 := by
  have hz := sz_nonneg' m
  unfold sqSh
  rw [bitAnd_m1]
  obtain ⟨t, ht⟩ : ∃ t, t = (if 2 * (p + 2) - sz m > 0 then 2 * (p + 2) - sz m else 0) := ⟨_, rfl⟩
  rw [← ht]
  have b : 0 ≤ t ∧ 2 * (p + 2) ≤ sz m + t ∧ t ≤ 2 * (p + 2) := by rw [ht]; split <;> lia
  refine ⟨(t + (e - t) % 2).toNat, (e - t) / 2, ?_, ?_, ?_, ?_⟩ <;> lia
theorem sqrt_val {p m e : Int} (hp : 1 ≤ p ∧ p ≤ 64) (hm : 0 < m) (l1 : -300 ≤ e) (l2 : e ≤ 300) : Is p (sqrtF p m e) (stQ (V m e * 2 ^ 498).toNat) := by
  obtain ⟨s, h, hs, he, hbig, hsm⟩ := sqSh_spec (m := m) (e := e) hp
  obtain ⟨n0, rfl⟩ := nat_of (N := m) (by lia)
  unfold sqrtF
  rw [if_neg (by lia), hs]
  have e0 : ((s : Int)).toNat = s := by lia
  have e1 : (e - (s : Int)).fdiv 2 = h := by rw [Int.fdiv_eq_ediv_of_nonneg _ (by decide), he]; lia
  rw [e0, e1, ← p2_cast, ← Int.natCast_mul, stickyQ]
  obtain ⟨k, hk⟩ : ∃ k : Nat, h + 499 = (k : Int) := nat_of (by lia)
  obtain ⟨i1, i2, i3⟩ := shr_is (p := p) (m := (stQ (n0 * 2 ^ s) : Int)) (e := h - 1) hp.1 (by lia)
  refine ⟨?_, i2, i3⟩
  rw [i1]
  have hV : V (stQ (n0 * 2 ^ s) : Int) (h - 1) = ((stQ (n0 * 2 ^ s) * 2 ^ k : Nat) : Int) := by
    unfold V
    rw [show (h - 1 + 500).toNat = k by lia, Int.natCast_mul, p2_cast]
  have hroot : 2 ^ p.toNat ≤ isqN (n0 * 2 ^ s) := by
    have a1 := szN_le (n := n0) (by lia)
    have a2 := szN_pos (n := n0) (by lia)
    have a3 := sz_eq n0
    rw [Int.natAbs_natCast] at a3
    refine isqN_ge ?_
    have a4 : 2 ^ (szN n0 - 1) * 2 ^ s ≤ n0 * 2 ^ s := Nat.mul_le_mul_right _ a1
    rw [← Nat.pow_add] at a4 ⊢
    exact Nat.le_trans (Nat.pow_le_pow_right (by decide) (by lia)) a4
  have hN : (V (n0 : Int) e * 2 ^ 498).toNat = n0 * 2 ^ s * (2 ^ k * 2 ^ k) := by
    unfold V
    have e2 : (e + 500).toNat + 498 = s + (k + k) := by lia
    rw [Int.mul_assoc, ← p2_add, e2, ← p2_cast, ← Int.natCast_mul, Int.toNat_natCast, ← Nat.pow_add, Nat.mul_assoc, ← Nat.pow_add]
  rw [hV, hN, R_nat, R_nat, stQ_scale k hroot]
/-- the check of the roots of rounded squares -/
def sqOk (p M Y l u : Nat) : Bool :=
  decide (l * l ≤ Y) && decide (Y < u * u) && decide (rn p (2 * l) = M * 2 ^ 11) && decide (rn p (2 * (u - 1) + 1) = M * 2 ^ 11) && decide (2 ^ p ≤ l) && decide (1 ≤ u)
def sqL (p M Y : Nat) : Nat := if Y = M * M * 2 ^ 20 then M * 2 ^ 10 else M * 2 ^ 10 - 2 ^ (9 + szN M - p) + 1
def sqU (p M Y : Nat) : Nat := if Y = M * M * 2 ^ 20 then M * 2 ^ 10 + 1 else M * 2 ^ 10 + 2 ^ (9 + szN M - p)
def sqChk (p M : Nat) : Bool := sqOk p M (rn p (M * M) * 2 ^ 20) (sqL p M (rn p (M * M) * 2 ^ 20)) (sqU p M (rn p (M * M) * 2 ^ 20))
theorem sqChk_all : ((List.range 10).all fun p => (List.range (2 ^ p)).all fun M => decide (p = 0) || decide (M = 0) || sqChk p M) = true := by decide +kernel
theorem sqChk_get {p M : Nat} (hp : 1 ≤ p) (hp2 : p ≤ 9) (hM : M < 2 ^ p) (h0 : M ≠ 0) : sqChk p M = true := by
  have := List.all_eq_true.mp sqChk_all p (List.mem_range.mpr (by lia))
  have := List.all_eq_true.mp this M (List.mem_range.mpr hM)
  simp only [Bool.or_eq_true, decide_eq_true_eq] at this
  rcases this with (h | h) | h
  · lia
  · exact absurd h h0
  · exact h
theorem sqOk_root {p M Y l u : Nat} (hp : 1 ≤ p) (h : sqOk p M Y l u = true) : rn p (stQ Y) = M * 2 ^ 11 ∧ 2 ^ p ≤ isqN Y := by
  unfold sqOk at h
  simp only [Bool.and_eq_true, decide_eq_true_eq] at h
  obtain ⟨⟨⟨⟨⟨a1, a2⟩, a3⟩, a4⟩, a5⟩, a6⟩ := h
  have b1 := isqN_ge a1
  have b2 : isqN Y ≤ u - 1 := isqN_le (by rw [Nat.sub_add_cancel a6]; exact a2)
  refine ⟨?_, by lia⟩
  have c1 : 2 * l ≤ stQ Y := by unfold stQ; lia
  have c2 : stQ Y ≤ 2 * (u - 1) + 1 := by unfold stQ; split <;> lia
  have d1 := rn_mono hp c1
  have d2 := rn_mono hp c2
  lia
theorem sq_root {p M : Nat} (hp : 1 ≤ p) (hp2 : p ≤ 9) (hM : M < 2 ^ p) (h0 : M ≠ 0) : rn p (stQ (rn p (M * M) * 2 ^ 20)) = M * 2 ^ 11 ∧ 2 ^ p ≤ isqN (rn p (M * M) * 2 ^ 20) :=
  sqOk_root hp (sqChk_get hp hp2 hM h0)
theorem fl_p {p : Int} (h1 : 2 ≤ p) (h2 : p ≤ 9) : pOk p := ⟨by lia, by lia⟩
theorem fl_r {p m e : Int} (_ : 2 ≤ p) (h2 : p ≤ 9) (h : FL p m e) : rOk m e := (h.md h2).rok (by decide) (by decide)
theorem FL.one {p : Int} (h1 : 2 ≤ p) (e : Int) (h : -40 ≤ e) (h' : e ≤ 40) : FL p 1 e := by
  refine ⟨h, h', .inr ⟨by decide, ?_⟩⟩
  have : 2 ^ 1 ≤ 2 ^ p.toNat := Nat.pow_le_pow_right (by decide) (by lia)
  show 1 < _
  lia
/-- an odd number of p bits at any place -/
theorem FL.at {p m e : Int} (h1 : 2 ≤ p) (h : FL p m e) (h0 : m ≠ 0) {e' : Int} (he : -500 ≤ e') : Is p (m, e') (V m e') := by
  refine ⟨(R_fix (p_nat h1) ⟨m, _, rfl, Nat.le_of_lt h.lt⟩).symm, ?_, he⟩
  rcases h.2.2 with c | c
  · exact absurd c.1 h0
  · exact .inr c.1
theorem R_pos {p : Nat} (hp : 1 ≤ p) {N : Int} (h : 0 < N) : 0 < R p N := by
  obtain ⟨n, rfl⟩ := nat_of (N := N) (by lia)
  rw [R_nat]
  have a := rn_lo (p := p) (n := n) (by lia) hp
  have b := Nat.two_pow_pos (szN n - 1)
  lia
theorem Is.rok {p : Int} {x : Int × Int} {N : Int} (hp : 1 ≤ p.toNat) (h : Is p x N) (hb : (N.natAbs : Int) ≤ 2 ^ 900) : rOk x.1 x.2 :=
  can_rok h.2.2 h.2.1 (by rw [h.1]; exact R_le hp hb (Nat.le_refl _))
/-- a quotient known by its value -/
theorem div_eq {p m1 e1 m2 e2 m e : Int} (h1 : 2 ≤ p) (h2 : p ≤ 9) (hx : FL p m1 e1) (hy : FL p m2 e2) (h0 : m2 ≠ 0) (hc : Can m e) (he : -500 ≤ e)
    (h : R p.toNat (stZ (V m1 e1 * 2 ^ 99 * sg m2) m2.natAbs) = V m e * 2 ^ (e2 + 100).toNat) : EvOk (divF p m1 e1 m2 e2).1 (divF p m1 e1 m2 e2).2 m e := by
  obtain ⟨a, b, c⟩ := div_val h1 h2 hx hy h0
  rw [h] at a
  exact can_uniq b hc c he (Int.eq_of_mul_eq_mul_right (by have := p2_pos (e2 + 100).toNat; lia) a)
theorem two_mul_pow (N : Int) : 2 * (N * 2 ^ 99 * 1) = N * 2 ^ 100 := by
  rw [Int.mul_one, Int.mul_left_comm, ← p2_succ]
section
variable {p m1 e1 m2 e2 : Int} (h1 : 2 ≤ p) (h2 : p ≤ 9) (hx : FL p m1 e1) (hy : FL p m2 e2)
include h1 h2 hx
theorem div_one (e : Int) (h : -40 ≤ e) (h' : e ≤ 40) (hc : Can m1 (e1 - e)) : EvOk (divF p m1 e1 1 e).1 (divF p m1 e1 1 e).2 m1 (e1 - e) := by
  have l := hx.1
  have l' := hx.2.1
  refine div_eq h1 h2 hx (FL.one h1 e h h') (by decide) hc (by lia) ?_
  have e3 : ((1 : Int)).natAbs = 1 := rfl
  rw [sg_pos (by decide), e3, stZ_one, two_mul_pow, R_scale, R_fix (p_nat h1) hx.rep]
  obtain ⟨u, hu⟩ : ∃ u : Nat, e + 100 = (u : Int) := nat_of (by lia)
  have e4 : (e + 100).toNat = u := by lia
  rw [e4, V_up (by lia), V_up (by lia)]
  congr 1
  lia
theorem div_self (h0 : m1 ≠ 0) : EvOk (divF p m1 e1 m1 e1).1 (divF p m1 e1 m1 e1).2 1 0 := by
  have l := hx.1
  have l' := hx.2.1
  refine div_eq h1 h2 hx hx h0 (.inr (by decide)) (by decide) ?_
  obtain ⟨u, hu⟩ : ∃ u : Nat, e1 + 100 = (u : Int) := nat_of (by lia)
  have e4 : (e1 + 100).toNat = u := by lia
  have e5 : (e1 + 500).toNat = u + 400 := by lia
  have hm : m1 * sg m1 = (m1.natAbs : Int) := by
    rcases sg_cases m1 with ⟨h, e⟩ | ⟨h, e⟩ | ⟨h, e⟩ <;> rw [e] <;> lia
  have e6 : V m1 e1 * 2 ^ 99 * sg m1 = (m1.natAbs : Int) * 2 ^ (u + 499) := by
    unfold V
    rw [e5, Int.mul_assoc m1, ← p2_add, Int.mul_right_comm, hm]
  rw [e6, stZ_self (by lia) (Int.le_of_lt (p2_pos _)), e4, ← p2_succ, V_up (by decide)]
  have e7 : V 1 (0 + (u : Int)) = 2 ^ (u + 499 + 1) := by
    unfold V
    rw [Int.one_mul]
    congr 1
    lia
  rw [e7]
  refine R_fix (p_nat h1) ⟨1, u + 499 + 1, (Int.one_mul _).symm, Nat.one_le_two_pow⟩
include hy
theorem div_neg (h0 : m1 ≠ 0) : EvOk (divF p (0 - m2) e2 m1 e1).1 (divF p (0 - m2) e2 m1 e1).2 (0 - (divF p m2 e2 m1 e1).1) (divF p m2 e2 m1 e1).2 := by
  have hy' : FL p (0 - m2) e2 := by
    refine ⟨hy.1, hy.2.1, ?_⟩
    rcases hy.2.2 with c | c
    · left; lia
    · right; lia
  obtain ⟨a, b, c⟩ := div_val h1 h2 hy hx h0
  refine div_eq h1 h2 hy' hx h0 ?_ c ?_
  · rcases b with b | b
    · left; lia
    · right; lia
  · rw [V_neg', V_neg', Int.neg_mul, Int.neg_mul, stZ_neg, R_neg, ← a, Int.neg_mul]
theorem ev_all : 
    EvP (addF p m1 e1 m2 e2) (addF p m2 e2 m1 e1) ∧ EvP (mulF p m1 e1 m2 e2) (mulF p m2 e2 m1 e1) ∧
    EvOk (addF p (0 - m1) e1 (0 - m2) e2).1 (addF p (0 - m1) e1 (0 - m2) e2).2 (0 - (addF p m1 e1 m2 e2).1) (addF p m1 e1 m2 e2).2 ∧
    EvOk (addF p m1 e1 (0 - m2) e2).1 (addF p m1 e1 (0 - m2) e2).2 (0 - (addF p m2 e2 (0 - m1) e1).1) (addF p m2 e2 (0 - m1) e1).2 ∧
    EvOk (mulF p (0 - m1) e1 m2 e2).1 (mulF p (0 - m1) e1 m2 e2).2 (0 - (mulF p m1 e1 m2 e2).1) (mulF p m1 e1 m2 e2).2 ∧
    EvOk (addF p m1 e1 (0 - m1) e1).1 (addF p m1 e1 (0 - m1) e1).2 0 0 ∧
    EvOk (addF p m1 e1 0 0).1 (addF p m1 e1 0 0).2 m1 e1 ∧ EvOk (mulF p m1 e1 1 0).1 (mulF p m1 e1 1 0).2 m1 e1 ∧ EvOk (divF p m1 e1 1 0).1 (divF p m1 e1 1 0).2 m1 e1 ∧
    rOk (mulF p m1 e1 m1 e1).1 (mulF p m1 e1 m1 e1).2 := by
  have hp := p_ok h1 h2
  have ox := hx.ok
  have oy := hy.ok
  have o0 : Ok 0 0 := ⟨.inl ⟨rfl, rfl⟩, by decide, by decide⟩
  have o1 : Ok 1 0 := ⟨.inr (by decide), by decide, by decide⟩
  refine ⟨?_, ?_, ?_, ?_, ?_, ?_, ?_, ?_, ?_, ?_⟩
  · have b := add_is hp oy ox
    rw [Int.add_comm] at b
    exact (add_is hp ox oy).eq b
  · have b := mul_is hp oy ox
    rw [Int.mul_comm, Int.add_comm] at b
    exact (mul_is hp ox oy).eq b
  · have a := add_is hp ox.neg oy.neg
    rw [V_neg', V_neg', ← Int.neg_add] at a
    exact a.eq (add_is hp ox oy).neg
  · have a := add_is hp ox oy.neg
    have b := (add_is hp oy ox.neg).neg
    rw [V_neg'] at a b
    rw [show -(V m2 e2 + -V m1 e1) = V m1 e1 + -V m2 e2 by lia] at b
    exact a.eq b
  · have a := mul_is hp ox.neg oy
    rw [Int.zero_sub, Int.neg_mul, V_neg, ← Int.zero_sub m1] at a
    exact a.eq (mul_is hp ox oy).neg
  · have a := add_is hp ox ox.neg
    rw [V_neg', show V m1 e1 + -V m1 e1 = 0 by lia] at a
    exact a.eq (is_zero p)
  · have a := add_is hp ox o0
    rw [V_zero, Int.add_zero] at a
    exact a.eq (hx.is h1)
  · have a := mul_is hp ox o1
    rw [Int.mul_one, Int.add_zero] at a
    exact a.eq (hx.is h1)
  · have a := div_one h1 h2 hx 0 (by decide) (by decide) (by rw [Int.sub_zero]; exact ox.can)
    rw [Int.sub_zero] at a
    exact a
  · exact (mul_is hp ox ox).rok (p_nat h1) (mul_bound h2 hx hx)
end
theorem ev_zero {p m e : Int} (h1 : 2 ≤ p) (h2 : p ≤ 9) (hx : FL p m e) (h0 : m = 0) : (mulF p m e m e).1 = 0 ∧ EvOk (mulF p m e m e).1 (mulF p m e m e).2 (if m < 0 then -m else m) e := by
  have he := hx.ok.zero h0
  have a := mul_is (p_ok h1 h2) hx.ok hx.ok
  rw [h0, Int.zero_mul, V_zero] at a
  have b := a.eq (is_zero p)
  rw [h0]
  refine ⟨b.1, b.1, ?_⟩
  rw [he]
  rw [he] at b
  exact b.2
theorem sqrt_sq {p m e : Int} (h1 : 2 ≤ p) (h2 : p ≤ 9) (hx : FL p m e) (h0 : m ≠ 0) : 0 < (mulF p m e m e).1 ∧ EvOk (sqrtF p (mulF p m e m e).1 (mulF p m e m e).2).1 (sqrtF p (mulF p m e m e).1 (mulF p m e m e).2).2 (if m < 0 then -m else m) e := by
  have l := hx.1
  have l' := hx.2.1
  have hp := p_ok h1 h2
  have a := mul_is hp hx.ok hx.ok
  generalize mulF p m e m e = q at *
  obtain ⟨q1, q2, q3⟩ := a
  have hM : m * m = ((m.natAbs * m.natAbs : Nat) : Int) := by rw [Int.natCast_mul, ← Int.natAbs_mul_self']
  have hM0 : 0 < m.natAbs * m.natAbs := Nat.mul_pos (by lia) (by lia)
  obtain ⟨k, hk⟩ : ∃ k : Nat, e + 489 = (k : Int) := nat_of (by lia)
  have hN : V (m * m) (e + e) = ((m.natAbs * m.natAbs : Nat) : Int) * 2 ^ (e + e + 500).toNat := by rw [hM]; rfl
  have hq : V q.1 q.2 = (rn p.toNat (m.natAbs * m.natAbs) : Int) * 2 ^ (e + e + 500).toNat := by rw [q1, hN, R_scale, R_nat]
  have qpos : 0 < q.1 := by
    refine (V_pos (e := q.2)).mp ?_
    rw [q1]
    refine R_pos (p_nat h1) ?_
    rw [hN]
    exact Int.mul_pos (by lia) (p2_pos _)
  refine ⟨qpos, ?_⟩
  have lo := bnd_lo (L := 420) q3 q2 (by rw [q1]; exact R_dvd (V_dvd (by lia))) (by decide)
  have hi : q.2 + 500 ≤ 700 := by
    refine (bnd (K := 700) q3 q2 ?_ (by decide)).1
    have hb : ((V (m * m) (e + e)).natAbs : Int) ≤ 2 ^ 600 := by
      have a := hx.lt
      have e' : 2 ^ p.toNat ≤ 2 ^ 9 := Nat.pow_le_pow_right (by decide) (by lia)
      have f : (m * m).natAbs ≤ 2 ^ (9 + 9) := by
        rw [Int.natAbs_mul, Nat.pow_add]
        exact Nat.mul_le_mul (Nat.le_trans (Nat.le_of_lt a) e') (Nat.le_trans (Nat.le_of_lt a) e')
      exact V_le (by lia) f (by lia)
    have := R_pow_le (p_nat h1) hb
    rw [q1]
    have : (2 : Int) ^ 600 < 2 ^ 700 := p2_lt (by decide)
    lia
  have s := sqrt_val hp qpos (by lia) (by lia : q.2 ≤ 300)
  have hval : (V q.1 q.2 * 2 ^ 498).toNat = rn p.toNat (m.natAbs * m.natAbs) * 2 ^ 20 * (2 ^ k * 2 ^ k) := by
    rw [hq, Int.mul_assoc, ← p2_add, ← p2_cast, ← Int.natCast_mul, Int.toNat_natCast, ← Nat.pow_add, Nat.mul_assoc, ← Nat.pow_add]
    congr 2
    lia
  obtain ⟨r1, r2⟩ := sq_root (p := p.toNat) (M := m.natAbs) (p_nat h1) (by lia) hx.lt (by lia)
  rw [abs_eq]
  refine s.eq (y := ((m.natAbs : Int), e)) ⟨?_, ?_, by show -500 ≤ e; lia⟩
  · show V (m.natAbs : Int) e = _
    rw [hval, R_nat, stQ_scale k r2, rn_scale, r1]
    unfold V
    rw [← p2_cast, ← Int.natCast_mul]
    congr 1
    rw [Nat.mul_assoc, ← Nat.pow_add]
    congr 2
    lia
  · show Can (m.natAbs : Int) e
    rcases hx.2.2 with c | c
    · exact absurd c.1 h0
    · right; lia
theorem ev_non {p m1 e1 m2 e2 : Int} (h1 : 2 ≤ p) (h2 : p ≤ 9) (hx : FL p m1 e1) (hy : FL p m2 e2) (h0 : m1 ≠ 0) :
    0 < (mulF p m1 e1 m1 e1).1 ∧
    EvOk (sqrtF p (mulF p m1 e1 m1 e1).1 (mulF p m1 e1 m1 e1).2).1 (sqrtF p (mulF p m1 e1 m1 e1).1 (mulF p m1 e1 m1 e1).2).2 (if m1 < 0 then -m1 else m1) e1 ∧
    EvOk (addF p m1 e1 m1 e1).1 (addF p m1 e1 m1 e1).2 m1 (e1 + 1) ∧ EvOk (mulF p 1 1 m1 e1).1 (mulF p 1 1 m1 e1).2 m1 (e1 + 1) ∧
    EvOk (divF p m1 e1 1 1).1 (divF p m1 e1 1 1).2 m1 (e1 - 1) ∧ EvOk (divF p m1 e1 m1 e1).1 (divF p m1 e1 m1 e1).2 1 0 ∧
    EvOk (divF p (0 - m2) e2 m1 e1).1 (divF p (0 - m2) e2 m1 e1).2 (0 - (divF p m2 e2 m1 e1).1) (divF p m2 e2 m1 e1).2 := by
  have l := hx.1
  have hp := p_ok h1 h2
  have odd : m1 % 2 = 1 := by
    rcases hx.2.2 with c | c
    · exact absurd c.1 h0
    · exact c.1
  obtain ⟨s1, s2⟩ := sqrt_sq h1 h2 hx h0
  refine ⟨s1, s2, ?_, ?_, div_one h1 h2 hx 1 (by decide) (by decide) (.inr odd), div_self h1 h2 hx h0, div_neg h1 h2 hx hy h0⟩
  · have a := add_is hp hx.ok hx.ok
    have e : V m1 e1 + V m1 e1 = V m1 (e1 + 1) := by
      have := V_up (m := m1) (e := e1) (k := 1) (by lia)
      rw [Int.pow_one] at this
      have e' : e1 + ((1 : Nat) : Int) = e1 + 1 := rfl
      rw [e'] at this
      lia
    rw [e] at a
    exact a.eq (hx.at h1 h0 (by lia))
  · have o1 : Ok 1 1 := ⟨.inr (by decide), by decide, by decide⟩
    have a := mul_is hp o1 hx.ok
    rw [Int.one_mul, Int.add_comm] at a
    exact a.eq (hx.at h1 h0 (by lia))
theorem div_bound {p m1 e1 m2 e2 : Int} (h1 : 2 ≤ p) (h2 : p ≤ 9) (hx : FL p m1 e1) (hy : FL p m2 e2) (h0 : m2 ≠ 0) : ((V (divF p m1 e1 m2 e2).1 (divF p m1 e1 m2 e2).2).natAbs : Int) ≤ 2 ^ 900 := by
  have a := (div_val h1 h2 hx hy h0).1
  have b := (hx.md h2).hi
  have c : (stZ (V m1 e1 * 2 ^ 99 * sg m2) m2.natAbs).natAbs ≤ 2 * (V m1 e1 * 2 ^ 99 * sg m2).natAbs + 1 := stZ_le _ _
  have d : (V m1 e1 * 2 ^ 99 * sg m2).natAbs ≤ 2 ^ 549 * 2 ^ 99 := by
    have e : (V m1 e1).natAbs ≤ 2 ^ 549 := by rw [← p2_cast] at b; exact Int.ofNat_le.mp b
    have f : (sg m2).natAbs ≤ 1 := by rcases sg_cases m2 with h | h | h <;> rw [h.2] <;> decide
    have g : ((2 : Int) ^ 99).natAbs = 2 ^ 99 := by rw [← p2_cast, Int.natAbs_natCast]
    rw [Int.natAbs_mul, Int.natAbs_mul, g]
    exact Nat.le_trans (Nat.mul_le_mul (Nat.mul_le_mul e (Nat.le_refl _)) f) (by rw [Nat.mul_one]; exact Nat.le_refl _)
  rw [← Nat.pow_add] at d
  have e : ((stZ (V m1 e1 * 2 ^ 99 * sg m2) m2.natAbs).natAbs : Int) ≤ 2 ^ (549 + 99 + 1 + 1) := by
    rw [p2_succ (549 + 99 + 1), p2_succ (549 + 99), ← p2_cast (549 + 99)]
    have := Nat.two_pow_pos (549 + 99)
    generalize 2 ^ (549 + 99) = z at *
    lia
  have f := R_pow_le (p_nat h1) e
  rw [← a] at f
  have g : (V (divF p m1 e1 m2 e2).1 (divF p m1 e1 m2 e2).2).natAbs ≤ (V (divF p m1 e1 m2 e2).1 (divF p m1 e1 m2 e2).2 * 2 ^ (e2 + 100).toNat).natAbs := by
    rw [Int.natAbs_mul]
    refine Nat.le_mul_of_pos_right _ ?_
    rw [← p2_cast, Int.natAbs_natCast]
    exact Nat.two_pow_pos _
  have i : (2 : Int) ^ (549 + 99 + 1 + 1) ≤ 2 ^ 900 := p2_mono (by decide)
  generalize (2 : Int) ^ (549 + 99 + 1 + 1) = z at *
  lia
section
variable {p m1 e1 m2 e2 m3 e3 : Int} (h1 : 2 ≤ p) (h2 : p ≤ 9) (hx : FL p m1 e1) (hy : FL p m2 e2) (hz : FL p m3 e3)
include h1 h2 hx hy
theorem ord_way : cmpOk m1 e1 m2 e2 := ord_way' h1 h2 hx hy
theorem div_mono (hz : FL p m3 e3) (h0 : 0 < m3) (h : V m1 e1 ≤ V m2 e2) : V (divF p m1 e1 m3 e3).1 (divF p m1 e1 m3 e3).2 ≤ V (divF p m2 e2 m3 e3).1 (divF p m2 e2 m3 e3).2 := by
  have a := (div_val h1 h2 hx hz (by lia)).1
  have b := (div_val h1 h2 hy hz (by lia)).1
  refine Int.le_of_mul_le_mul_right ?_ (p2_pos (e3 + 100).toNat)
  rw [a, b, sg_pos h0, Int.mul_one, Int.mul_one]
  exact R_mono (p_nat h1) (stZ_mono _ (Int.mul_le_mul_of_nonneg_right h (Int.le_of_lt (p2_pos 99))))
theorem div_anti (hz : FL p m3 e3) (h0 : m3 < 0) (h : V m1 e1 ≤ V m2 e2) : V (divF p m2 e2 m3 e3).1 (divF p m2 e2 m3 e3).2 ≤ V (divF p m1 e1 m3 e3).1 (divF p m1 e1 m3 e3).2 := by
  have a := (div_val h1 h2 hx hz (by lia)).1
  have b := (div_val h1 h2 hy hz (by lia)).1
  refine Int.le_of_mul_le_mul_right ?_ (p2_pos (e3 + 100).toNat)
  rw [a, b, sg_neg h0]
  have c := Int.mul_le_mul_of_nonneg_right h (Int.le_of_lt (p2_pos 99))
  exact R_mono (p_nat h1) (stZ_mono _ (by lia))
include hz
theorem ord_add : OrdP (cmpR m1 e1 m2 e2) (addF p m1 e1 m3 e3) (addF p m2 e2 m3 e3) := ord_add' h1 h2 hx hy hz
theorem ord_sub : OrdP (cmpR m1 e1 m2 e2) (addF p m1 e1 (0 - m3) e3) (addF p m2 e2 (0 - m3) e3) := ord_sub' h1 h2 hx hy hz
theorem ord_bus : OrdP (cmpR m1 e1 m2 e2) (addF p m3 e3 (0 - m2) e2) (addF p m3 e3 (0 - m1) e1) := ord_bus' h1 h2 hx hy hz
theorem ord_mul (h0 : 0 ≤ m3) : OrdP (cmpR m1 e1 m2 e2) (mulF p m1 e1 m3 e3) (mulF p m2 e2 m3 e3) := ord_mul' h1 h2 hx hy hz h0
theorem ord_lum (h0 : m3 < 0) : OrdP (cmpR m1 e1 m2 e2) (mulF p m2 e2 m3 e3) (mulF p m1 e1 m3 e3) := ord_lum' h1 h2 hx hy hz h0
theorem ord_div (h0 : 0 < m3) : OrdP (cmpR m1 e1 m2 e2) (divF p m1 e1 m3 e3) (divF p m2 e2 m3 e3) := by
  have a1 := hx.ok.lo
  have a2 := hy.ok.lo
  have v1 := div_val h1 h2 hx hz (by lia)
  have v2 := div_val h1 h2 hy hz (by lia)
  exact ord_of (by lia) (by lia) v1.2.1 v2.2.1 v1.2.2 v2.2.2 (div_bound h1 h2 hx hz (by lia)) (div_bound h1 h2 hy hz (by lia)) (div_mono h1 h2 hx hy hz h0) (div_mono h1 h2 hy hx hz h0)
theorem ord_vid (h0 : m3 < 0) : OrdP (cmpR m1 e1 m2 e2) (divF p m2 e2 m3 e3) (divF p m1 e1 m3 e3) := by
  have a1 := hx.ok.lo
  have a2 := hy.ok.lo
  have v1 := div_val h1 h2 hx hz (by lia)
  have v2 := div_val h1 h2 hy hz (by lia)
  exact ord_of (by lia) (by lia) v2.2.1 v1.2.1 v2.2.2 v1.2.2 (div_bound h1 h2 hy hz (by lia)) (div_bound h1 h2 hx hz (by lia)) (div_anti h1 h2 hx hy hz h0) (div_anti h1 h2 hy hx hz h0)
end
theorem sqrt_is {p m e : Int} (h1 : 2 ≤ p) (h2 : p ≤ 9) (hx : FL p m e) (h0 : 0 ≤ m) : Is p (sqrtF p m e) (stQ (V m e * 2 ^ 498).toNat) := by
  have a := hx.ok.lo
  have b := hx.ok.hi
  by_cases hz : m = 0
  · have he := hx.ok.zero hz
    have : sqrtF p m e = (0, 0) := by unfold sqrtF; rw [if_pos hz, hz, he]
    rw [this, hz, V_zero, Int.zero_mul]
    exact is_zero p
  · exact sqrt_val (p_ok h1 h2) (by lia) (by lia) (by lia)
theorem isqN_small {n k : Nat} (h : n < 2 ^ k * 2 ^ k) : isqN n < 2 ^ k := by
  refine Nat.lt_of_not_le fun hl => ?_
  have a := Nat.mul_le_mul hl hl
  have b := (isqN_spec n).1
  lia
theorem sqrt_bound {p m e : Int} (h2 : p ≤ 9) (hx : FL p m e) : (((stQ (V m e * 2 ^ 498).toNat : Nat) : Int).natAbs : Int) ≤ 2 ^ 900 := by
  have b := (hx.md h2).hi
  have c : (V m e).natAbs ≤ 2 ^ 549 := by rw [← p2_cast] at b; exact Int.ofNat_le.mp b
  have d : (V m e * 2 ^ 498).toNat < 2 ^ 600 * 2 ^ 600 := by
    have e1 : (V m e * 2 ^ 498).toNat ≤ (V m e * 2 ^ 498).natAbs := by lia
    have e2 : (V m e * 2 ^ 498).natAbs ≤ 2 ^ 549 * 2 ^ 498 := by
      rw [Int.natAbs_mul, ← p2_cast, Int.natAbs_natCast]
      exact Nat.mul_le_mul_right _ c
    rw [← Nat.pow_add] at e2 ⊢
    have e3 : 2 ^ (549 + 498) < 2 ^ (600 + 600) := Nat.pow_lt_pow_right (by decide) (by decide)
    exact Nat.lt_of_le_of_lt (Nat.le_trans e1 e2) e3
  have f := isqN_small d
  have g : stQ (V m e * 2 ^ 498).toNat ≤ 2 * isqN (V m e * 2 ^ 498).toNat + 1 := by unfold stQ; split <;> lia
  rw [Int.natAbs_natCast, ← p2_cast 900]
  have i : 2 ^ (600 + 1) ≤ 2 ^ 900 := Nat.pow_le_pow_right (by decide) (by decide)
  rw [Nat.pow_succ] at i
  generalize 2 ^ 900 = z at *
  generalize 2 ^ 600 = y at *
  lia
theorem ord_sqrt {p m1 e1 m2 e2 : Int} (h1 : 2 ≤ p) (h2 : p ≤ 9) (hx : FL p m1 e1) (hy : FL p m2 e2) (h3 : 0 ≤ m1) (h4 : 0 ≤ m2) : OrdP (cmpR m1 e1 m2 e2) (sqrtF p m1 e1) (sqrtF p m2 e2) := by
  have a1 := hx.ok.lo
  have a2 := hy.ok.lo
  have mono : ∀ {a b : Int}, a ≤ b → ((stQ (a * 2 ^ 498).toNat : Nat) : Int) ≤ ((stQ (b * 2 ^ 498).toNat : Nat) : Int) := by
    intro a b h
    have := Int.mul_le_mul_of_nonneg_right h (Int.le_of_lt (p2_pos 498))
    exact Int.ofNat_le.mpr (stQ_mono (by lia))
  exact ord_is (p_nat h1) (by lia) (by lia) (sqrt_is h1 h2 hx h3) (sqrt_is h1 h2 hy h4) (sqrt_bound h2 hx) (sqrt_bound h2 hy) mono mono
theorem ex_low {p m e : Int} (h : FL p m e) : -80 ≤ e := by have := h.1; lia
theorem ex_sub {p m1 e1 m2 e2 : Int} (h1 : 2 ≤ p) (h2 : p ≤ 9) (hx : FL p m1 e1) (hy : FL p m2 e2) : rOk (addF p m1 e1 (0 - m2) e2).1 (addF p m1 e1 (0 - m2) e2).2 ∧ -80 ≤ (addF p m1 e1 (0 - m2) e2).2 ∧
    (0 < atE m1 e1 ∧ 0 < atE m2 e2 ∧ atE m2 e2 ≤ 2 * atE m1 e1 ∧ atE m1 e1 ≤ 2 * atE m2 e2 → atE (addF p m1 e1 (0 - m2) e2).1 (addF p m1 e1 (0 - m2) e2).2 = atE m1 e1 - atE m2 e2) := ex_sub' h1 h2 hx hy
theorem ex_two {p ma ea mb eb : Int} (h1 : 2 ≤ p) (h2 : p ≤ 9) (hx : FL p ma ea) (hy : FL p mb eb) (h : absI (atE mb eb) ≤ absI (atE ma ea)) : TwoOk p ma ea mb eb := ex_two' h1 h2 hx hy h
theorem zb_nonneg {n : Int} (h : n ≠ 0) : 0 ≤ zb n := zb_nonneg' h
theorem sz_nonneg (n : Int) : 0 ≤ sz n := sz_nonneg' n
theorem sz_bits (n : Int) : sz n = (Builtin.Int.intBits n : Int) := by rw [sz_eq, bits_eq]
theorem szN_le_iff {n k : Nat} : szN n ≤ k ↔ n < 2 ^ k := by
  constructor
  · intro h
    exact Nat.lt_of_lt_of_le (szN_lt n) (Nat.pow_le_pow_right (by decide) h)
  · intro h
    by_cases h0 : n = 0
    · subst h0; exact Nat.zero_le _
    · have a := szN_le h0
      have b := szN_pos h0
      have := (Nat.pow_lt_pow_iff_right (by decide : 1 < 2)).mp (Nat.lt_of_le_of_lt a h)
      lia
theorem sz_le_iff {n : Int} {k : Nat} : sz n ≤ k ↔ n.natAbs < 2 ^ k := by
  rw [sz_eq, ← szN_le_iff]; omega
theorem bits_abs {n : Int} {k : Nat} (h : Builtin.Int.intBits n ≤ k) : Builtin.Int.intBits (if n < 0 then -n else n) ≤ k := by
  rw [abs_eq, bits_eq, Int.natAbs_natCast, ← bits_eq]; exact h
theorem sz_le {n : Int} {k : Nat} (h : Builtin.Int.intBits n ≤ k) : sz n ≤ k := by rw [sz_bits]; lia
theorem cmp_abs {m1 e1 m2 e2 : Int} (h : cmpOk m1 e1 m2 e2) : cmpOk (if m1 < 0 then -m1 else m1) e1 (if m2 < 0 then -m2 else m2) e2 :=
  ⟨bits_abs h.1, bits_abs h.2.1, h.2.2⟩
theorem sg_mul (m n : Int) : IntMulOk (sg m) n := IntMulOk.of_left (sg_bits m)
theorem bits_sg_mul {a x : Int} {k : Nat} (h : Builtin.Int.intBits x ≤ k) : Builtin.Int.intBits (sg a * x) ≤ k := by
  refine intBits_le_of_natAbs ?_ h
  rw [Int.natAbs_mul]
  rcases sg_cases a with h | h | h <;> rw [h.2] <;> simp
theorem bits_shift {m : Int} {k : Nat} (s : Nat) (h : Builtin.Int.intBits m ≤ k) : Builtin.Int.intBits (m * 2 ^ s) ≤ k + s := by
  rw [intBits_le_iff] at h ⊢
  rw [Int.natAbs_mul, ← p2_cast, Int.natAbs_natCast, Nat.pow_add]
  exact Nat.mul_lt_mul_of_pos_right h (Nat.two_pow_pos s)
theorem bits_two {m : Int} {k : Nat} (t : Int) (ht : t.natAbs ≤ 1) (h : Builtin.Int.intBits m ≤ k) : Builtin.Int.intBits (2 * m + t) ≤ k + 2 := by
  rw [intBits_le_iff] at h ⊢
  rw [Nat.pow_succ, Nat.pow_succ]
  omega
theorem bits_sticky {q : Int} {k : Nat} (t : Bool) (h : Builtin.Int.intBits q ≤ k) : Builtin.Int.intBits (sticky q t) ≤ k + 2 := by
  unfold sticky
  exact bits_two _ (by cases t <;> decide) h
theorem sg_abs (m : Int) : (sg m).natAbs ≤ 1 := by rcases sg_cases m with h | h | h <;> rw [h.2] <;> decide
theorem sr_lean1 {p m e : Int} (h : srOk p m e) : leanOk m e := by
  obtain ⟨a, b, c, d, f⟩ := h
  have := sz_nonneg m
  intro _
  lia
theorem rdg_sz {g n k : Nat} (h : szN n ≤ k) : szN (rdg g n) ≤ k + 1 := by
  have a := rdg_le g n
  have b := Nat.div_le_self n (2 ^ g)
  rw [szN_le_iff] at h ⊢
  rw [Nat.pow_succ]
  lia
theorem nsh_sz {m : Int} {g : Int} {k : Nat} (hg : 1 ≤ g) (h : sz m ≤ k) : sz (sg m * nsh (if m < 0 then -m else m) g) ≤ k + 1 := by
  obtain ⟨g, rfl⟩ := nat_of (N := g) (by lia)
  rw [abs_eq, nsh_eq (by lia), sz_eq, Int.natAbs_mul, Int.natAbs_natCast]
  rw [sz_eq] at h
  have a := rdg_sz (g := g) (n := m.natAbs) (k := k) (by lia)
  have b := sg_abs m
  have c : (sg m).natAbs * rdg g m.natAbs ≤ rdg g m.natAbs := by
    have := Nat.mul_le_mul_right (rdg g m.natAbs) b
    lia
  have := szN_mono c
  lia
theorem sr_lean2 {p m e : Int} (h : srOk p m e) (h2 : ¬ sz m - p ≤ 0) : leanOk (sg m * nsh (if m < 0 then -m else m) (sz m - p)) (e + (sz m - p)) := by
  obtain ⟨a, b, c, d, f⟩ := h
  have h1 := nsh_sz (m := m) (g := sz m - p) (k := 20000) (by lia) c
  have h3 := sz_nonneg (sg m * nsh (if m < 0 then -m else m) (sz m - p))
  intro _
  lia
theorem srOk.of {p m e : Int} {k : Nat} (hp : pOk p) (h : Builtin.Int.intBits m ≤ k) (hk : k ≤ 20000) (h1 : -20000 ≤ e) (h2 : e ≤ 20000) : srOk p m e :=
  ⟨hp.1, hp.2, by have := sz_le h; lia, h1, h2⟩
theorem add_zero_ok {p m1 e1 m2 e2 : Int} (hp : pOk p) (h1 : rOk m1 e1) (h2 : rOk m2 e2) : srOk p (m1 + m2) (e1 + e2) := by
  obtain ⟨a, b, c⟩ := h1
  obtain ⟨d, e, f⟩ := h2
  exact .of hp (intBits_add_le a d) (by decide) (by lia) (by lia)
theorem add_tot_ok {p m1 e1 m2 e2 : Int} (hp : pOk p) (h1 : rOk m1 e1) (h2 : rOk m2 e2) : srOk p (totF m1 e1 m2 e2) (if e2 < e1 then e2 else e1) := by
  obtain ⟨a, b, c⟩ := h1
  obtain ⟨d, e, f⟩ := h2
  obtain ⟨low, hl⟩ : ∃ low, low = (if e2 < e1 then e2 else e1) := ⟨_, rfl⟩
  have l1 : low ≤ e1 ∧ low ≤ e2 ∧ -1000 ≤ low := by rw [hl]; split <;> lia
  unfold totF
  rw [← hl]
  have g1 := bits_shift (e1 - low).toNat a
  have g2 := bits_shift (e2 - low).toNat d
  have g3 : Builtin.Int.intBits (m1 * 2 ^ (e1 - low).toNat) ≤ 3000 := by lia
  have g4 : Builtin.Int.intBits (m2 * 2 ^ (e2 - low).toNat) ≤ 3000 := by lia
  exact .of hp (intBits_add_le g3 g4) (by decide) (by lia) (by lia)
theorem far_ok {p m1 e1 : Int} (m2 : Int) (hp : pOk p) (h1 : rOk m1 e1) : srOk p (2 * (m1 * 2 ^ (if 0 < p + 3 - sz m1 then p + 3 - sz m1 else 0).toNat) + sg m2) (e1 - (if 0 < p + 3 - sz m1 then p + 3 - sz m1 else 0) - 1) := by
  obtain ⟨a, b, c⟩ := h1
  have hz := sz_nonneg m1
  obtain ⟨s, hs⟩ : ∃ s, s = (if 0 < p + 3 - sz m1 then p + 3 - sz m1 else 0) := ⟨_, rfl⟩
  rw [← hs]
  have l1 : 0 ≤ s ∧ s ≤ 67 := by have := hp.1; have := hp.2; rw [hs]; split <;> lia
  have g : Builtin.Int.intBits (m1 * 2 ^ s.toNat) ≤ 1100 := by have := bits_shift s.toNat a; lia
  exact .of hp (bits_two _ (sg_abs m2) g) (by decide) (by lia) (by lia)
theorem mul_ok {p m1 e1 m2 e2 : Int} (hp : pOk p) (h1 : rOk m1 e1) (h2 : rOk m2 e2) : srOk p (m1 * m2) (e1 + e2) ∧ IntMulOk m1 m2 := by
  obtain ⟨a, b, c⟩ := h1
  obtain ⟨d, e, f⟩ := h2
  exact ⟨.of hp (intBits_mul_le a d) (by decide) (by lia) (by lia), IntMulOk.of_le a d (by decide)⟩
theorem neg_ok {m e : Int} (h : rOk m e) : rOk (0 - m) e := by
  obtain ⟨a, b, c⟩ := h
  exact ⟨by rw [Int.zero_sub]; exact intBits_neg_le a, b, c⟩
/-- rough bounds of the argument of the quotient's rounding -/
theorem rnd_r1 {p a b : Int} (h : rndOk p a b) (_ : a ≠ 0) (hs : 0 ≤ p + 2 + sz b - sz a) : Builtin.Int.intBits (sg a * sticky (((if a < 0 then -a else a) * 2 ^ (p + 2 + sz b - sz a).toNat).fdiv b) ((((if a < 0 then -a else a) * 2 ^ (p + 2 + sz b - sz a).toNat).fmod b) != 0)) ≤ 4102 ∧ -2100 ≤ 0 - (p + 2 + sz b - sz a) - 1 ∧ 0 - (p + 2 + sz b - sz a) - 1 ≤ 0 := by
  obtain ⟨hp, hb, ha, hbb⟩ := h
  have z1 := sz_nonneg a
  have z2 := sz_le hbb
  have q := hp.1
  have r := hp.2
  have g : Builtin.Int.intBits ((if a < 0 then -a else a) * 2 ^ (p + 2 + sz b - sz a).toNat) ≤ 4100 := by
    have := bits_shift (p + 2 + sz b - sz a).toNat (bits_abs ha)
    lia
  exact ⟨bits_sg_mul (bits_sticky _ (intBits_fdiv_le g)), by lia, by lia⟩
theorem rnd_r2 {p a b : Int} (h : rndOk p a b) (_ : a ≠ 0) (hs : ¬ 0 ≤ p + 2 + sz b - sz a) : Builtin.Int.intBits (sg a * sticky ((if a < 0 then -a else a).fdiv (b * 2 ^ (0 - (p + 2 + sz b - sz a)).toNat)) (((if a < 0 then -a else a).fmod (b * 2 ^ (0 - (p + 2 + sz b - sz a)).toNat)) != 0)) ≤ 4102 ∧ -2100 ≤ 0 - (p + 2 + sz b - sz a) - 1 ∧ 0 - (p + 2 + sz b - sz a) - 1 ≤ 2100 := by
  obtain ⟨hp, hb, ha, hbb⟩ := h
  have z1 := sz_nonneg b
  have z2 := sz_le ha
  have q := hp.1
  have g := bits_abs ha
  exact ⟨bits_sg_mul (Nat.le_trans (bits_sticky _ (intBits_fdiv_le g)) (by decide)), by lia, by lia⟩
theorem rnd_ok1 {p a b : Int} (h : rndOk p a b) (h0 : a ≠ 0) (hs : 0 ≤ p + 2 + sz b - sz a) : srOk p (sg a * sticky (((if a < 0 then -a else a) * 2 ^ (p + 2 + sz b - sz a).toNat).fdiv b) ((((if a < 0 then -a else a) * 2 ^ (p + 2 + sz b - sz a).toNat).fmod b) != 0)) (0 - (p + 2 + sz b - sz a) - 1) := by
  obtain ⟨x, y, z⟩ := rnd_r1 h h0 hs
  exact .of h.1 x (by decide) (by lia) (by lia)
theorem rnd_ok2 {p a b : Int} (h : rndOk p a b) (h0 : a ≠ 0) (hs : ¬ 0 ≤ p + 2 + sz b - sz a) : srOk p (sg a * sticky ((if a < 0 then -a else a).fdiv (b * 2 ^ (0 - (p + 2 + sz b - sz a)).toNat)) (((if a < 0 then -a else a).fmod (b * 2 ^ (0 - (p + 2 + sz b - sz a)).toNat)) != 0)) (0 - (p + 2 + sz b - sz a) - 1) := by
  obtain ⟨x, y, z⟩ := rnd_r2 h h0 hs
  exact .of h.1 x (by decide) (by lia) (by lia)
theorem rnd_b0 {b : Int} (n : Int) (h : 0 < b) : b * 2 ^ n.toNat ≠ 0 := by
  have := Int.mul_pos h (p2_pos n.toNat)
  lia
theorem rnd_bits {p a b : Int} (h : Builtin.Int.intBits b ≤ 2000) (h1 : sz a ≤ 2000) (h2 : 0 ≤ sz b) (h3 : 1 ≤ p) : Builtin.Int.intBits (b * 2 ^ (0 - (p + 2 + sz b - sz a)).toNat) ≤ 5000 := by
  have := bits_shift (0 - (p + 2 + sz b - sz a)).toNat h
  omega
theorem lean_rough {m e : Int} {k : Nat} (h : sz m ≤ k) : sz (leanF m e).1 ≤ k ∧ ((leanF m e).2 = 0 ∨ (e ≤ (leanF m e).2 ∧ (leanF m e).2 ≤ e + k)) := by
  unfold leanF
  by_cases hz : m = 0
  · rw [if_pos hz]
    refine ⟨?_, .inl rfl⟩
    have : sz 0 = 0 := by decide
    show sz 0 ≤ _
    lia
  · rw [if_neg hz]
    obtain ⟨j, t, e1, hj, e2, e3⟩ := zb_spec hz
    simp only [e2]
    have e4 : ((t : Int)).toNat = t := by lia
    rw [e4, e3]
    have j0 : j.natAbs ≠ 0 := by lia
    have hs : szN m.natAbs = szN j.natAbs + t := by
      rw [e1, Int.natAbs_mul, ← p2_cast, Int.natAbs_natCast, szN_mul j0]
    rw [sz_eq] at h
    refine ⟨?_, .inr ⟨?_, ?_⟩⟩
    · rw [sz_eq]; lia
    · lia
    · show e + (t : Int) ≤ e + k
      lia
theorem shr_rough {p m e : Int} {k : Nat} (hp : 0 ≤ p) (h : sz m ≤ k) (h1 : -(k : Int) ≤ e) (h2 : e ≤ k) : sz (shr p m e).1 ≤ k + 1 ∧ -(k : Int) ≤ (shr p m e).2 ∧ (shr p m e).2 ≤ 3 * k + 1 := by
  have hz := sz_nonneg m
  unfold shr
  by_cases hc : sz m - p ≤ 0
  · rw [if_pos hc]
    obtain ⟨a, b⟩ := lean_rough (e := e) h
    refine ⟨by lia, ?_, ?_⟩ <;> rcases b with b | b <;> lia
  · rw [if_neg hc]
    have g := nsh_sz (m := m) (g := sz m - p) (by lia) h
    obtain ⟨a, b⟩ := lean_rough (m := sg m * nsh (if m < 0 then -m else m) (sz m - p)) (e := e + (sz m - p)) (k := k + 1) (by lia)
    refine ⟨by lia, ?_, ?_⟩ <;> rcases b with b | b <;> lia
theorem div_ok {p m1 e1 m2 e2 : Int} (hp : pOk p) (h1 : rOk m1 e1) (h2 : rOk m2 e2) (h0 : m2 ≠ 0) : rndOk p (m1 * sg m2) (if m2 < 0 then -m2 else m2) ∧ IntMulOk m1 (sg m2) ∧
  leanOk (rndF p (m1 * sg m2) (if m2 < 0 then -m2 else m2)).1 ((rndF p (m1 * sg m2) (if m2 < 0 then -m2 else m2)).2 + e1 - e2) := by
  obtain ⟨a, b, c⟩ := h1
  obtain ⟨d, e, f⟩ := h2
  have hr : rndOk p (m1 * sg m2) (if m2 < 0 then -m2 else m2) := by
    refine ⟨hp, by split <;> omega, ?_, Nat.le_trans (bits_abs d) (by decide)⟩
    rw [Int.mul_comm]
    exact Nat.le_trans (bits_sg_mul a) (by decide)
  refine ⟨hr, IntMulOk.of_right (sg_bits m2), ?_⟩
  have hp0 := hp.1
  have key : sz (rndF p (m1 * sg m2) (if m2 < 0 then -m2 else m2)).1 ≤ 6000 ∧ -6000 ≤ (rndF p (m1 * sg m2) (if m2 < 0 then -m2 else m2)).2 ∧ (rndF p (m1 * sg m2) (if m2 < 0 then -m2 else m2)).2 ≤ 20000 := by
    generalize (if m2 < 0 then -m2 else m2) = y at *
    generalize m1 * sg m2 = x at *
    unfold rndF
    by_cases hx : x = 0
    · rw [if_pos hx]
      decide
    · rw [if_neg hx]
      by_cases hs : 0 ≤ p + 2 + sz y - sz x
      · rw [if_pos hs]
        obtain ⟨q1, q2, q3⟩ := rnd_r1 hr hx hs
        have := shr_rough (p := p) (e := 0 - (p + 2 + sz y - sz x) - 1) (k := 4102) (by omega) (sz_le q1) (by omega) (by omega)
        omega
      · rw [if_neg hs]
        obtain ⟨q1, q2, q3⟩ := rnd_r2 hr hx hs
        have := shr_rough (p := p) (e := 0 - (p + 2 + sz y - sz x) - 1) (k := 4102) (by omega) (sz_le q1) (by omega) (by omega)
        omega
  have hz := sz_nonneg (rndF p (m1 * sg m2) (if m2 < 0 then -m2 else m2)).1
  intro _
  omega
theorem isqN_self (n : Nat) : isqN n ≤ n := by
  have a := (isqN_spec n).1
  by_cases h : isqN n = 0
  · lia
  · have := Nat.le_mul_of_pos_left (isqN n) (n := isqN n) (by lia)
    lia
theorem sq_ok {p m e : Int} (hp : pOk p) (h : rOk m e) (h0 : 0 < m) : 0 ≤ sqSh p m e ∧ sqSh p m e ≤ 2000 ∧ Builtin.Int.intBits (m * 2 ^ (sqSh p m e).toNat) ≤ 4000 ∧ 0 ≤ m * 2 ^ (sqSh p m e).toNat ∧
  IntMulOk (isq (m * 2 ^ (sqSh p m e).toNat)) (isq (m * 2 ^ (sqSh p m e).toNat)) ∧
  srOk p (sticky (isq (m * 2 ^ (sqSh p m e).toNat)) (isq (m * 2 ^ (sqSh p m e).toNat) * isq (m * 2 ^ (sqSh p m e).toNat) != m * 2 ^ (sqSh p m e).toNat)) ((e - sqSh p m e).fdiv 2 - 1) := by
  obtain ⟨a, b, c⟩ := h
  have q1 := hp.1
  have q2 := hp.2
  obtain ⟨s, g, hs, hg, _, hb⟩ := sqSh_spec (m := m) (e := e) hp
  have e0 : ((s : Int)).toNat = s := by lia
  have e1 : (e - (s : Int)).fdiv 2 = g := by rw [Int.fdiv_eq_ediv_of_nonneg _ (by decide), hg]; lia
  rw [hs, e0, e1]
  have hbits : Builtin.Int.intBits (m * 2 ^ s) ≤ 1500 := by have := bits_shift s a; lia
  have hn : 0 ≤ m * 2 ^ s := Int.le_of_lt (Int.mul_pos h0 (p2_pos s))
  have hq : Builtin.Int.intBits (isq (m * 2 ^ s)) ≤ 1500 := by
    refine intBits_le_of_natAbs ?_ hbits
    unfold isq
    have := isqN_self (m * 2 ^ s).toNat
    lia
  exact ⟨by lia, by lia, by lia, hn, IntMulOk.of_le hq hq (by decide), .of hp (bits_sticky _ hq) (by decide) (by lia) (by lia)⟩
theorem rp_start {n : Int} (h : 0 ≤ n) (h0 : n ≠ 0) (hb : Builtin.Int.intBits n ≤ 4000) : RP n (1 * 2 ^ ((↑(Builtin.Int.intBits n) + 1 : Int).fdiv 2).toNat) ((1 * 2 ^ ((↑(Builtin.Int.intBits n) + 1 : Int).fdiv 2).toNat + n.fdiv (1 * 2 ^ ((↑(Builtin.Int.intBits n) + 1 : Int).fdiv 2).toNat)).fdiv 2) := by
  obtain ⟨k, hk⟩ : ∃ k : Nat, (↑(Builtin.Int.intBits n) + 1 : Int).fdiv 2 = (k : Int) := nat_of (by rw [Int.fdiv_eq_ediv_of_nonneg _ (by decide)]; lia)
  have hk2 : Builtin.Int.intBits n ≤ 2 * k ∧ k ≤ 2001 := by rw [Int.fdiv_eq_ediv_of_nonneg _ (by decide)] at hk; lia
  rw [hk]
  have e0 : ((k : Int)).toNat = k := by lia
  rw [e0, Int.one_mul]
  refine ⟨by lia, p2_pos k, ?_, ?_, hb, rfl⟩
  · unfold isq
    have h1 : n.toNat < 2 ^ k * 2 ^ k := by
      have := intBits_le_iff.mp hk2.1
      rw [← Nat.pow_add, show k + k = 2 * k by lia]
      lia
    have := isqN_small h1
    rw [← p2_cast]
    lia
  · have := bits_shift (m := 1) (k := 1) k (by decide)
    rw [Int.one_mul] at this
    lia
theorem newton {r n f : Int} (hr : 0 ≤ r) (hrn : r * r ≤ n) (hf : 0 < f) : r ≤ (f + n / f) / 2 := by
  have h1 : (2 * r - f) * f ≤ n := by
    have h2 : (2 * r - f) * f = r * r - (r - f) * (r - f) := by
      simp only [Int.sub_mul, Int.mul_sub, Int.mul_assoc, Int.mul_comm f r]
      lia
    have h3 : 0 ≤ (r - f) * (r - f) := by
      by_cases h : 0 ≤ r - f
      · exact Int.mul_nonneg h h
      · have := Int.mul_nonneg (a := -(r - f)) (b := -(r - f)) (by lia) (by lia)
        rw [Int.neg_mul_neg] at this
        exact this
    lia
  have h4 : 2 * r - f ≤ n / f := (Int.le_ediv_iff_mul_le hf).mpr h1
  lia
theorem isq_sq {n : Int} (h : 0 ≤ n) : isq n * isq n ≤ n ∧ 0 ≤ isq n := by
  have a := (isqN_spec n.toNat).1
  unfold isq
  rw [← Int.natCast_mul]
  lia
theorem isq_ge {n f : Int} (hf : 0 ≤ f) (h : f * f ≤ n) : f ≤ isq n := by
  obtain ⟨k, rfl⟩ := nat_of hf
  rw [← Int.natCast_mul] at h
  have := isqN_ge (f := k) (n := n.toNat) (by lia)
  unfold isq
  lia
theorem isq_pos {n : Int} (h : 0 < n) : 0 < isq n := by
  have := isq_ge (n := n) (f := 1) (by decide) (by lia)
  lia
theorem rp_b {n f b : Int} (h : RP n f b) : isq n ≤ b ∧ 0 < b := by
  obtain ⟨h1, h2, h3, h4, h5, h6⟩ := h
  have hq := isq_sq (n := n) (by lia)
  have hp := isq_pos h1
  have := newton hq.2 hq.1 h2
  rw [h6, Int.fdiv_eq_ediv_of_nonneg _ (by decide), Int.fdiv_eq_ediv_of_nonneg _ (by lia)]
  lia
theorem rp_step {n f b : Int} (h : RP n f b) (hl : b < f) : RP n b ((b + n.fdiv b).fdiv 2) := by
  obtain ⟨q1, q2⟩ := rp_b h
  obtain ⟨h1, h2, h3, h4, h5, h6⟩ := h
  exact ⟨h1, q2, q1, intBits_le_of_natAbs (by lia) h4, h5, rfl⟩
theorem rp_pos {n f b : Int} (h : RP n f b) : 0 < f ∧ 0 < b ∧ Builtin.Int.intBits f ≤ 4000 ∧ Builtin.Int.intBits b ≤ 5000 := by
  obtain ⟨q1, q2⟩ := rp_b h
  obtain ⟨h1, h2, h3, h4, h5, h6⟩ := h
  refine ⟨h2, q2, h4, ?_⟩
  rw [h6]
  exact Nat.le_trans (intBits_fdiv_le (intBits_add_le h4 (intBits_fdiv_le h5))) (by decide)
theorem rp_end {n f b : Int} (h : RP n f b) (hl : ¬ b < f) : f = isq n := by
  obtain ⟨h1, h2, h3, h4, h5, h6⟩ := h
  rw [h6, Int.fdiv_eq_ediv_of_nonneg _ (by decide), Int.fdiv_eq_ediv_of_nonneg _ (by lia)] at hl
  have hge : f ≤ n / f := by lia
  have := (Int.le_ediv_iff_mul_le h2).mp hge
  have := isq_ge (n := n) (f := f) (by lia) this
  lia
theorem rp_sh {n : Int} (hb : Builtin.Int.intBits n ≤ 4000) : 0 ≤ (↑(Builtin.Int.intBits n) + 1 : Int).fdiv 2 ∧ (↑(Builtin.Int.intBits 1) + (↑(Builtin.Int.intBits n) + 1 : Int).fdiv 2 : Int) ≤ 2 ^ 27 := by
  have h1 : Builtin.Int.intBits 1 = 1 := by decide
  rw [Int.fdiv_eq_ediv_of_nonneg _ (by decide), h1]
  lia
/-- a rounded number has p bits -/
theorem Is.small {p : Int} {x : Int × Int} {N : Int} (hp : 1 ≤ p.toNat) (h : Is p x N) : (x.1 = 0 ∧ x.2 = 0) ∨ (x.1 % 2 = 1 ∧ x.1.natAbs < 2 ^ p.toNat) := by
  obtain ⟨a, b, c⟩ := h
  rcases b with b | b
  · exact .inl b
  · right
    refine ⟨b, ?_⟩
    obtain ⟨k, j, e, hk⟩ := R_isRep hp N
    rw [e] at a
    unfold V at a
    obtain ⟨u, hu⟩ : ∃ u : Nat, (x.2 + 500).toNat = u := ⟨_, rfl⟩
    rw [hu] at a
    have hle : x.1.natAbs ≤ 2 ^ p.toNat := by
      by_cases hj : j ≤ u
      · obtain ⟨d, rfl⟩ : ∃ d, u = d + j := ⟨u - j, by omega⟩
        rw [p2_add, ← Int.mul_assoc] at a
        have e2 : x.1 * 2 ^ d = k := Int.eq_of_mul_eq_mul_right (by have := p2_pos j; omega) a
        rw [← e2, Int.natAbs_mul, ← p2_cast, Int.natAbs_natCast] at hk
        exact Nat.le_trans (Nat.le_mul_of_pos_right _ (Nat.two_pow_pos d)) hk
      · obtain ⟨d, rfl⟩ : ∃ d, j = (d + 1) + u := ⟨j - u - 1, by omega⟩
        rw [p2_add, ← Int.mul_assoc] at a
        have e2 : x.1 = k * 2 ^ (d + 1) := Int.eq_of_mul_eq_mul_right (by have := p2_pos u; omega) a
        rw [p2_succ, Int.mul_left_comm] at e2
        omega
    obtain ⟨q, hq⟩ : ∃ q, 2 ^ p.toNat = 2 * q := ⟨2 ^ (p.toNat - 1), (pow_pred_two hp).symm⟩
    omega
theorem shr_fl {p m e : Int} {A : Nat} (h1 : 2 ≤ p) (hm : m.natAbs ≤ 2 ^ A) (he : -40 ≤ e) (he2 : e ≤ 40) (hA : A ≤ 20) :
    ((shr p m e).1 = 0 ∧ (shr p m e).2 = 0 ∨ (shr p m e).1 % 2 = 1 ∧ (shr p m e).1.natAbs < 2 ^ p.toNat) ∧ (if e < 0 then e else 0) ≤ (shr p m e).2 ∧ (shr p m e).2 ≤ (if e + A + 1 < 0 then 0 else e + A + 1) := by
  have i := shr_is (p := p) (m := m) (e := e) (by lia) (by lia)
  refine ⟨i.small (p_nat h1), ?_⟩
  obtain ⟨a, b, c⟩ := i
  by_cases hz : (shr p m e).1 = 0
  · have h0 : (shr p m e).2 = 0 := by rcases b with b | b <;> lia
    rw [h0]
    constructor <;> split <;> lia
  · obtain ⟨L, hL⟩ : ∃ L : Nat, e + 500 = (L : Int) := nat_of (by lia)
    have hodd : (shr p m e).1 % 2 = 1 := by rcases b with b | b; (exact absurd b.1 hz); exact b
    have up : (shr p m e).2 + 500 ≤ (L + A + 1 : Nat) := by
      by_cases hK : 500 ≤ L + A + 1
      · have hb : ((V m e).natAbs : Int) ≤ 2 ^ (L + A) := V_le (by lia) hm (by lia)
        have hr := R_pow_le (p_nat h1) hb
        have hlt : (2 : Int) ^ (L + A) < 2 ^ (L + A + 1) := p2_lt (by lia)
        refine (bnd c b (by rw [a]; lia) hK).1
      · refine Int.not_lt.mp fun hlt => ?_
        have hb : ((V m e).natAbs : Int) ≤ 2 ^ (L + A) := V_le (by lia) hm (by lia)
        have hr := R_pow_le (p_nat h1) hb
        rw [← a] at hr
        unfold V at hr
        obtain ⟨u, hu⟩ : ∃ u : Nat, ((shr p m e).2 + 500).toNat = u := ⟨_, rfl⟩
        rw [hu, Int.natAbs_mul, ← p2_cast, ← p2_cast, Int.natAbs_natCast] at hr
        have h2 := Int.ofNat_le.mp hr
        have h3 : 2 ^ u ≤ (shr p m e).1.natAbs * 2 ^ u := Nat.le_mul_of_pos_left _ (by lia)
        have h4 : 2 ^ (L + A) < 2 ^ u := Nat.pow_lt_pow_right (by decide) (by lia)
        lia
    have dn : (L : Int) ≤ (shr p m e).2 + 500 := by
      refine Int.not_lt.mp fun hlt => ?_
      have hd : (2 : Int) ^ L ∣ V (shr p m e).1 (shr p m e).2 := by rw [a]; exact R_dvd (V_dvd (by lia))
      by_cases hL5 : L ≤ 500
      · have := bnd_lo c b hd hL5
        lia
      · obtain ⟨u, hu⟩ : ∃ u : Nat, ((shr p m e).2 + 500).toNat = u := ⟨_, rfl⟩
        obtain ⟨q, hq⟩ := hd
        unfold V at hq
        rw [hu] at hq
        obtain ⟨d, hd'⟩ : ∃ d : Nat, L = d + 1 + u := ⟨L - u - 1, by lia⟩
        rw [hd', p2_add (d + 1) u, Int.mul_right_comm] at hq
        have hm' := Int.eq_of_mul_eq_mul_right (by have := p2_pos u; lia) hq
        rw [p2_succ, Int.mul_assoc] at hm'
        lia
    constructor <;> split <;> lia
theorem p2_9 {p : Int} (h1 : 2 ≤ p) (h2 : p ≤ 9) : (2 : Int) ^ (p + 1).toNat = 2 * 2 ^ p.toNat ∧ (2 : Int) ^ p.toNat ≤ 512 ∧ (0 : Int) < 2 ^ p.toNat := by
  have e : (p + 1).toNat = p.toNat + 1 := by lia
  have := p2_mono (a := p.toNat) (b := 9) (by lia)
  refine ⟨by rw [e, p2_succ], ?_, p2_pos _⟩
  have e9 : (2 : Int) ^ 9 = 512 := by decide
  lia
theorem draw_sr {p a b : Int} (h1 : 2 ≤ p) (h2 : p ≤ 9) (ha : 0 ≤ a) (ha2 : a < 1 * 2 ^ (p + 1).toNat) (hb : 0 ≤ b) (hb2 : b < 9) : srOk p (a - 1 * 2 ^ p.toNat) (b - 4) := by
  obtain ⟨e1, e2, e3⟩ := p2_9 h1 h2
  have hs : sz (a - 1 * 2 ^ p.toNat) ≤ (10 : Nat) := sz_le_iff.mpr (by lia)
  exact ⟨by lia, by lia, by lia, by lia, by lia⟩
theorem draw_fl {p a b : Int} (h1 : 2 ≤ p) (h2 : p ≤ 9) (ha : 0 ≤ a) (ha2 : a < 1 * 2 ^ (p + 1).toNat) (hb : 0 ≤ b) (hb2 : b < 9) : FLt p (shr p (a - 1 * 2 ^ p.toNat) (b - 4)).1 (shr p (a - 1 * 2 ^ p.toNat) (b - 4)).2 := by
  obtain ⟨e1, e2, e3⟩ := p2_9 h1 h2
  obtain ⟨a1, a2, a3⟩ := shr_fl (p := p) (m := a - 1 * 2 ^ p.toNat) (e := b - 4) (A := 9) h1 (by lia) (by lia) (by lia) (by decide)
  have a4 : -4 ≤ (shr p (a - 1 * 2 ^ p.toNat) (b - 4)).2 := by revert a2; split <;> lia
  have a5 : (shr p (a - 1 * 2 ^ p.toNat) (b - 4)).2 ≤ 14 := by revert a3; split <;> lia
  exact ⟨⟨by lia, by lia, a1⟩, by lia, by lia⟩
theorem redraw_sr {p m e r : Int} (h1 : 2 ≤ p) (h2 : p ≤ 9) (h : FLt p m e) (hr : 0 ≤ r) (hr2 : r < 9) : srOk p (4 * m + r - 4) (e - 2) := by
  obtain ⟨e1, e2, e3⟩ := p2_9 h1 h2
  obtain ⟨hf, l1, l2⟩ := h
  have hl := hf.lt
  have hl' : (m.natAbs : Int) < 2 ^ p.toNat := by rw [← p2_cast]; exact Int.ofNat_lt.mpr hl
  have hs : sz (4 * m + r - 4) ≤ (13 : Nat) := sz_le_iff.mpr (by lia)
  exact ⟨by lia, by lia, by lia, by lia, by lia⟩
theorem redraw_fl {p m e r : Int} (h1 : 2 ≤ p) (h2 : p ≤ 9) (h : FLt p m e) (hr : 0 ≤ r) (hr2 : r < 9) : FL p (shr p (4 * m + r - 4) (e - 2)).1 (shr p (4 * m + r - 4) (e - 2)).2 := by
  obtain ⟨e1, e2, e3⟩ := p2_9 h1 h2
  obtain ⟨hf, l1, l2⟩ := h
  have hl := hf.lt
  have hl' : (m.natAbs : Int) < 2 ^ p.toNat := by rw [← p2_cast]; exact Int.ofNat_lt.mpr hl
  obtain ⟨a1, a2, a3⟩ := shr_fl (p := p) (m := 4 * m + r - 4) (e := e - 2) (A := 12) h1 (by omega) (by omega) (by omega) (by decide)
  have a4 : -22 ≤ (shr p (4 * m + r - 4) (e - 2)).2 := by revert a2; split <;> omega
  have a5 : (shr p (4 * m + r - 4) (e - 2)).2 ≤ 31 := by revert a3; split <;> omega
  exact ⟨by omega, by omega, a1⟩
theorem bits_pow {p : Int} (h1 : 2 ≤ p) (h2 : p ≤ 9) : 1 ≤ (1 * 2 ^ (p + 1).toNat : Int) ∧ Builtin.Int.intBits (1 * 2 ^ (p + 1).toNat) ≤ 100 := by
  obtain ⟨e1, e2, e3⟩ := p2_9 h1 h2
  refine ⟨by lia, ?_⟩
  have := bits_shift (m := 1) (k := 1) (p + 1).toNat (by decide)
  lia


def Cx (w : World) (mean : ExcName → Option Value) (mg mb : Str → Option Value) (f : Addr) (D : Nat) (Pre : List (Addr × Obj) → Prop) (vs : List Value)
    (Ret : Heap → Addr → (Str → Option Value) → List (Addr × Obj) → Shared → (Value → Shared → Prop) → Prop) : Prop :=
  ∀ (dp un : Nat) (gd : Option (List Code)) (cn : Str) (cs : Scope) (a : Addr) (ccd : Value) (cl : List (Str × Addr)) (outer : List Env) (A₀ : Around) (base h₀ : Heap) (L : Addr) (m : Str → Option Value) (news : List (Addr × Obj)) (s : Shared) (Q E : Value → Shared → Prop),
    Below A₀ base outer h₀ → Fr h₀ L s.heap m → (Mine.hp w.params).In h₀ → News h₀ L s.heap news → Top Mine.vw (looseW Mine.vw [Str.ofString "REACH"]) mean mg mb h₀ → cs.kind = .function → Pre news → dp + D < recursionLimit → un + 8 * D < cLine →
    Ret h₀ L m news s Q →
    wpAny (model PySem.Challenge.rw_pq1015_01.row.prog w) (ktrTop dp un gd cn cs L a ccd cl outer) (call (.ref f) vs) Q E s

def RetInt (n : Int) (h₀ : Heap) (L : Addr) (m : Str → Option Value) (news : List (Addr × Obj)) (s : Shared) (Q : Value → Shared → Prop) : Prop :=
  ∀ (t : Tok) (h' : Heap) (tk' : Nat), Fr h₀ L h' m → News h₀ L h' news → Q (.int n t) { s with heap := h', toks := tk' }
def RetBool (b : Bool) (h₀ : Heap) (L : Addr) (m : Str → Option Value) (news : List (Addr × Obj)) (s : Shared) (Q : Value → Shared → Prop) : Prop :=
  ∀ (h' : Heap) (tk' : Nat), Fr h₀ L h' m → News h₀ L h' news → Q (.bool b) { s with heap := h', toks := tk' }
def RetRef (x : Addr) (h₀ : Heap) (L : Addr) (m : Str → Option Value) (news : List (Addr × Obj)) (s : Shared) (Q : Value → Shared → Prop) : Prop :=
  ∀ (h' : Heap) (tk' : Nat), Fr h₀ L h' m → News h₀ L h' news → Q (.ref x) { s with heap := h', toks := tk' }
abbrev TK : Type := Tok × Tok × Tok × Tok
abbrev RD (w : World) (m e : Int) (t : TK) : Obj := dictOf
  [{ hash := PyData.keyHash w.params (Str.ofString "mantissa"), key := Value.str (Str.ofString "mantissa") t.1, val := Value.int m t.2.2.1 },
   { hash := PyData.keyHash w.params (Str.ofString "exponent"), key := Value.str (Str.ofString "exponent") t.2.1, val := Value.int e t.2.2.2 }] 2
def RetReal (w : World) (n e : Int) (h₀ : Heap) (L : Addr) (m : Str → Option Value) (news : List (Addr × Obj)) (s : Shared) (Q : Value → Shared → Prop) : Prop :=
  ∀ (x dx : Addr) (t : TK) (h' : Heap) (tk' : Nat), Fr h₀ L h' m → News h₀ L h' ((x, instObj 108 dx) :: (dx, RD w n e t) :: news) → (∀ p ∈ news, p.1 < dx) → @LT.lt Nat _ dx x →
    Q (.ref x) { s with heap := h', toks := tk' }

def RetDrawn (W I : Addr) (many : Int) (rest : List (Addr × Obj)) (h₀ : Heap) (L : Addr) (m : Str → Option Value) (_ : List (Addr × Obj)) (s : Shared) (Q : Value → Shared → Prop) : Prop :=
  ∀ (r : Int) (t : Tok) (ys : List Value) (ns : List Int) (k : Int) (tk : Tok) (c1 c2 : Nat) (h' : Heap) (tk' : Nat), 0 ≤ r → r < many → IntsAre ys ns → ys.length ≤ 100 → 0 ≤ k → k ≤ 65536 → Fr h₀ L h' m → News h₀ L h' ((W, listOf #[.ref I, .int k tk] c1) :: (I, listOf ys.toArray c2) :: rest) → Q (.int r t) { s with heap := h', toks := tk' }
def RetLawReal (w : World) (W I : Addr) (p : Int) (rest : List (Addr × Obj)) (h₀ : Heap) (L : Addr) (m : Str → Option Value) (_ : List (Addr × Obj)) (s : Shared) (Q : Value → Shared → Prop) : Prop :=
  ∀ (n e : Int) (x dx : Addr) (t : TK) (ys : List Value) (ns : List Int) (k : Int) (tk : Tok) (c1 c2 : Nat) (h' : Heap) (tk' : Nat), FLt p n e → IntsAre ys ns → ys.length ≤ 100 → 0 ≤ k → k ≤ 65536 → Fr h₀ L h' m →
    News h₀ L h' ((x, instObj 108 dx) :: (dx, RD w n e t) :: (W, listOf #[.ref I, .int k tk] c1) :: (I, listOf ys.toArray c2) :: rest) → (∀ p ∈ rest, p.1 < dx) → @LT.lt Nat _ W dx → @LT.lt Nat _ I dx → @LT.lt Nat _ dx x → Q (.ref x) { s with heap := h', toks := tk' }
section
variable {h₀ : Heap} {L : Addr} {m : Str → Option Value} {news : List (Addr × Obj)} {s : Shared} {Q : Value → Shared → Prop}
theorem ret_int {n : Int} (h : ∀ (t : Tok) (h' : Heap) (tk' : Nat), Fr h₀ L h' m → News h₀ L h' news → Q (.int n t) { s with heap := h', toks := tk' }) : RetInt n h₀ L m news s Q := h
theorem ret_bool {b : Bool} (h : ∀ (h' : Heap) (tk' : Nat), Fr h₀ L h' m → News h₀ L h' news → Q (.bool b) { s with heap := h', toks := tk' }) : RetBool b h₀ L m news s Q := h
theorem ret_ref {x : Addr} (h : ∀ (h' : Heap) (tk' : Nat), Fr h₀ L h' m → News h₀ L h' news → Q (.ref x) { s with heap := h', toks := tk' }) : RetRef x h₀ L m news s Q := h
theorem ret_real {w : World} {n e : Int} (h : ∀ (x dx : Addr) (t : TK) (h' : Heap) (tk' : Nat), Fr h₀ L h' m → News h₀ L h' ((x, instObj 108 dx) :: (dx, RD w n e t) :: news) → (∀ p ∈ news, p.1 < dx) → @LT.lt Nat _ dx x →
    Q (.ref x) { s with heap := h', toks := tk' }) : RetReal w n e h₀ L m news s Q := h
theorem ret_drawn {W I : Addr} {many : Int} {rest : List (Addr × Obj)} (h : ∀ (r : Int) (t : Tok) (ys : List Value) (ns : List Int) (k : Int) (tk : Tok) (c1 c2 : Nat) (h' : Heap) (tk' : Nat), 0 ≤ r → r < many → IntsAre ys ns → ys.length ≤ 100 → 0 ≤ k → k ≤ 65536 → Fr h₀ L h' m → News h₀ L h' ((W, listOf #[.ref I, .int k tk] c1) :: (I, listOf ys.toArray c2) :: rest) → Q (.int r t) { s with heap := h', toks := tk' }) : RetDrawn W I many rest h₀ L m news s Q := h
theorem ret_lawreal {w : World} {W I : Addr} {p : Int} {rest : List (Addr × Obj)} (h : ∀ (n e : Int) (x dx : Addr) (t : TK) (ys : List Value) (ns : List Int) (k : Int) (tk : Tok) (c1 c2 : Nat) (h' : Heap) (tk' : Nat), FLt p n e → IntsAre ys ns → ys.length ≤ 100 → 0 ≤ k → k ≤ 65536 → Fr h₀ L h' m →
    News h₀ L h' ((x, instObj 108 dx) :: (dx, RD w n e t) :: (W, listOf #[.ref I, .int k tk] c1) :: (I, listOf ys.toArray c2) :: rest) → (∀ p ∈ rest, p.1 < dx) → @LT.lt Nat _ W dx → @LT.lt Nat _ I dx → @LT.lt Nat _ dx x → Q (.ref x) { s with heap := h', toks := tk' }) : RetLawReal w W I p rest h₀ L m news s Q := h
end

section
variable {w : World} {mean : ExcName → Option Value} {mg mb : Str → Option Value}

theorem cx_use {f : Addr} {D : Nat} {Pre : List (Addr × Obj) → Prop} {vs : List Value}
    {Ret : Heap → Addr → (Str → Option Value) → List (Addr × Obj) → Shared → (Value → Shared → Prop) → Prop}
    {dp un : Nat} {gd : Option (List Code)} {cn : Str} {cs : Scope} {a : Addr} {ccd : Value} {cl : List (Str × Addr)} {outer : List Env} {A₀ : Around} {base h₀ : Heap} {L : Addr} {m : Str → Option Value} {news : List (Addr × Obj)} {s : Shared} {Q E : Value → Shared → Prop}
    (B : Below A₀ base outer h₀) (F : Fr h₀ L s.heap m) (X : (Mine.hp w.params).In h₀) (N : News h₀ L s.heap news) (T : Top Mine.vw (looseW Mine.vw [Str.ofString "REACH"]) mean mg mb h₀) (hk : cs.kind = .function)
    (C : Cx w mean mg mb f D Pre vs Ret) (hp : Pre news) (hd : dp + D < recursionLimit) (hu : un + 8 * D < cLine) (hr : Ret h₀ L m news s Q) :
    wpAny (model PySem.Challenge.rw_pq1015_01.row.prog w) (ktrTop dp un gd cn cs L a ccd cl outer) (call (.ref f) vs) Q E s :=
  C _ _ _ _ _ _ _ _ _ _ _ _ _ _ _ _ _ _ B F X N T hk hp hd hu hr

theorem real_end {h₀ h' : Heap} {L : Addr} {m : Str → Option Value} {news : List (Addr × Obj)} {s : Shared} {Q : Value → Shared → Prop} {t1 t2 tm te : Tok} {tk' : Nat} {x dx : Addr} {n e : Int} (hret : RetReal w n e h₀ L m news s Q) (F : Fr h₀ L h' m)
    (N : News h₀ L h' ((x, instObj 108 dx) :: (dx, RD w n e (t1, t2, tm, te)) :: news)) (hl : ∀ p ∈ news, p.1 < dx) (l2 : @LT.lt Nat _ dx x) : Q (.ref x) { s with heap := h', toks := tk' } := hret x dx (t1, t2, tm, te) h' tk' F N hl l2
/-- the law's own facts about ends of a walk -/
theorem end_int {h₀ h' : Heap} {L : Addr} {m : Str → Option Value} {news : List (Addr × Obj)} {s : Shared} {Q : Value → Shared → Prop} {t : Tok} {tk' : Nat} {x y : Int} (hret : RetInt x h₀ L m news s Q) (e : y = x) (F : Fr h₀ L h' m) (N : News h₀ L h' news) : Q (.int y t) { s with heap := h', toks := tk' } := by
  subst e
  exact hret t h' tk' F N
theorem end_bool {h₀ h' : Heap} {L : Addr} {m : Str → Option Value} {news : List (Addr × Obj)} {s : Shared} {Q : Value → Shared → Prop} {tk' : Nat} {x y : Bool} (hret : RetBool x h₀ L m news s Q) (e : y = x) (F : Fr h₀ L h' m) (N : News h₀ L h' news) : Q (.bool y) { s with heap := h', toks := tk' } := by
  subst e
  exact hret h' tk' F N
theorem end_real {h₀ h' : Heap} {L : Addr} {m : Str → Option Value} {news rest : List (Addr × Obj)} {s : Shared} {Q : Value → Shared → Prop} {t : TK} {tk' : Nat} {x dx : Addr} {n e n' e' : Int} (hret : RetReal w n e h₀ L m news s Q)
    (F : Fr h₀ L h' m) (N : News h₀ L h' ((x, instObj 108 dx) :: (dx, RD w n' e' t) :: rest)) (e1 : n' = n) (e2 : e' = e) (hs : ∀ p ∈ news, p ∈ rest) (hl : ∀ p ∈ news, p.1 < dx) (l2 : @LT.lt Nat _ dx x) : Q (.ref x) { s with heap := h', toks := tk' } := by
  subst e1 e2
  refine hret x dx t h' tk' F (fun p hp => ?_) hl l2
  rcases List.mem_cons.mp hp with rfl | hp
  · exact N _ (.head _)
  · rcases List.mem_cons.mp hp with rfl | hp
    · exact N _ (.tail _ (.head _))
    · exact N _ (.tail _ (.tail _ (hs p hp)))

theorem pr_ieq_f {x y : Int} {P Q : Prop} (h : x ≠ y) (q : Q) : if (x == y) = true then P else Q := by rw [if_neg (by simp [h])]; exact q
theorem pr_ieq_t {x y : Int} {P Q : Prop} (h : x = y) (q : P) : if (x == y) = true then P else Q := by rw [if_pos (by simp [h])]; exact q
theorem pr_ine_t {x y : Int} {P Q : Prop} (h : x ≠ y) (q : P) : if (x != y) = true then P else Q := by rw [if_pos (by simp [h])]; exact q
theorem pr_ine_f {x y : Int} {P Q : Prop} (h : x = y) (q : Q) : if (x != y) = true then P else Q := by rw [if_neg (by simp [h])]; exact q
theorem pr_dec_t {c : Prop} [Decidable c] {P Q : Prop} (h : c) (q : P) : if decide c = true then P else Q := by rw [if_pos (by simp [h])]; exact q
theorem pr_dec_f {c : Prop} [Decidable c] {P Q : Prop} (h : ¬ c) (q : Q) : if decide c = true then P else Q := by rw [if_neg (by simp [h])]; exact q
local macro_rules | `(tactic| walk_at "ite") => `(tactic| (k_here; first | ((with_reducible refine pr_ieq_f ?h ?_); (case h => k_dflt omega); walk_say "MINE") | ((with_reducible refine pr_ieq_t ?h ?_); (case h => k_dflt omega); walk_say "MINE") | ((with_reducible refine pr_ine_f ?h ?_); (case h => k_dflt omega); walk_say "MINE") | ((with_reducible refine pr_ine_t ?h ?_); (case h => k_dflt omega); walk_say "MINE") | ((with_reducible refine pr_dec_f ?h ?_); (case h => k_dflt omega); walk_say "MINE") | ((with_reducible refine pr_dec_t ?h ?_); (case h => k_dflt omega); walk_say "MINE")))
local macro_rules | `(tactic| walk_at "binaryOp LShift int int") => `(tactic| (k_here; (with_reducible refine lshift_int ?kbn ?kbs ?_); (case kbn => k_dflt (first | assumption | omega)); (case kbs => k_dflt (first | assumption | omega))))
local macro_rules | `(tactic| walk_at "binaryOp RShift int int") => `(tactic| (k_here; (with_reducible refine rshift_int ?kbn ?_); (case kbn => k_dflt (first | assumption | omega))))
local macro_rules | `(tactic| walk_at "binaryOp Mult int int") => `(tactic| (k_here; (with_reducible refine mul_int ?_ (hm := ?hm)); (case hm => k_dflt (first | exact sg_mul _ _ | assumption | mul_fits))))
theorem noPy {x y : Int} {k : Nat} (h : Builtin.Int.intBits y ≤ k) (hk : k ≤ 9000) : Builtin.divisionGoesByPylong x y = false := by
  refine PyProof.noPylong_of_log2 ?_
  unfold Builtin.Int.intBits at h
  split at h
  · rename_i h0
    rw [beq_iff_eq.mp h0]
    decide +kernel
  · omega
local macro_rules | `(tactic| walk_at "call builtin:divmod") => `(tactic| (k_here; (with_reducible show wpAny _ _ (call (Value.builtin _) [Value.int _ _, Value.int _ _]) _ _ _); (refine divmod_N (by assumption) (by assumption) ?hb ?_ (hp := ?hp)); (case hb => k_dflt (first | assumption | omega)); (case hp => exact Or.inl (noPy (by assumption) (by decide))); intro _ _ _))
local macro_rules | `(tactic| k_inst) => `(tactic| (refine' InstAt.of_news ?N ?h1 ?h2; (case N => k_asm); (case h1 => (repeat (first | exact List.Mem.head _ | refine' List.Mem.tail _ ?_ | assumption))); (case h2 => (repeat (first | exact List.Mem.head _ | refine' List.Mem.tail _ ?_ | assumption)))))
local macro_rules | `(tactic| walk_at "binaryOp FloorDiv int int") => `(tactic| (k_here; (with_reducible refine floordiv_int ?hb ?_ (hp := ?hp)); (case hb => k_dflt (first | assumption | decide | omega)); (case hp => k_dflt (first | exact Or.inl (PyProof.noPylong_of_log2 (by decide +kernel)) | exact Or.inl (noPy (by assumption) (by decide))))))
theorem room0 {dp D : Nat} (h : dp + D < recursionLimit) : dp < recursionLimit := Nat.lt_of_le_of_lt (Nat.le_add_right _ _) h
theorem room1 {dp D b : Nat} (h : dp + D < recursionLimit) (e : Nat.ble (1 + b) D = true) : dp + 1 + b < recursionLimit := by
  have := Nat.le_of_ble_eq_true e
  omega
theorem units1 {un D b : Nat} (h : un + 8 * D < cLine) (e : Nat.ble (3 + b) (8 * D) = true) : un + 3 + b < cLine := by
  have := Nat.le_of_ble_eq_true e
  omega
local macro_rules | `(tactic| ktr_room) => `(tactic| first | exact room0 (by assumption) | exact room1 (by assumption) rfl)
local macro_rules | `(tactic| ktr_units) => `(tactic| exact units1 (by assumption) rfl)
local macro_rules | `(tactic| ktr_rel) => `(tactic| exact trivial)
local macro_rules | `(tactic| walk_at "call ref") => `(tactic| (k_here; (with_reducible show wpAny _ _ (call (Value.ref _) _) _ _ _); k_dflt (refine' cx_use ?k1 ?k2 ?k3 ?k4 ?k5 ?kK ?_ ?kp ?kd ?ku ?_; (case k1 => k_asm); (case k2 => k_asm); (case k3 => k_asm); (case k4 => k_asm); (case k5 => k_asm); (case kK => first | exact rfl | assumption); rotate_left 3; ktr_unf; (fail_if_success (with_reducible show Cx _ _ _ _ _ _ _ _ _)); (case kp => (repeat' (first | assumption | exact List.Mem.head _ | refine' List.Mem.tail _ ?_ | ktr_rel | refine And.intro ?_ ?_ | omega))); (case kd => ktr_room); (case ku => ktr_units); (first | (refine' ret_real ?_; intro x9 dx9 t9 h9 tk9 F9 N9 l19 l29; (try k_lt l19); (try k_lt2 l29)) | (refine' ret_int ?_; intro t9 h9 tk9 F9 N9) | (refine' ret_bool ?_; intro h9 tk9 F9 N9) | (refine' ret_ref ?_; intro h9 tk9 F9 N9) | (refine' ret_drawn ?_; intro r9 t9 ys9 ns9 k9 tk9 c91 c92 h9 tk9' hr90 hr91 hI9 hl9 hk90 hk91 F9 N9) | (refine' ret_lawreal ?_; intro n9 e9 x9 dx9 t9 ys9 ns9 k9 tk9 c91 c92 h9 tk9' hf9 hI9 hl9 hk90 hk91 F9 N9 l19 l39 l49 l29; (try k_lt l19))); (try k_sweep); (try dsimp only); (try k_fold))))
theorem size_of_spec (n : Int) (t : Tok) : Cx w mean mg mb 119 3 (fun _ => True) [.int n t] (RetInt (sz n)) := by
  unfold Cx
  k_fill
  intro dp un gd cn cs a ccd cl outer A₀ base h₀ L m news s Q E B F X N T hk hpre hd hu hret
  refine wpAny_call ?_
  k_dflt ktr_enter
  k_steps
  all_goals (refine' end_int hret ?e1 ?e2 ?e3; (case e2 => k_asm); (case e3 => first | k_asm | (refine' cb_drop ?cbN ?cbS; (case cbN => assumption); (case cbS => kcj_all))); (case e1 => rfl))

local macro_rules | `(tactic| ktr_unf) => `(tactic| with_reducible refine' size_of_spec _ _)
theorem sign_of_whole_spec (n : Int) (t : Tok) : Cx w mean mg mb 126 3 (fun _ => True) [.int n t] (RetInt (sg n)) := by
  unfold Cx
  k_fill
  intro dp un gd cn cs a ccd cl outer A₀ base h₀ L m news s Q E B F X N T hk hpre hd hu hret
  refine wpAny_call ?_
  k_dflt ktr_enter
  k_steps
  all_goals (refine' end_int hret ?e1 ?e2 ?e3; (case e2 => k_asm); (case e3 => first | k_asm | (refine' cb_drop ?cbN ?cbS; (case cbN => assumption); (case cbS => kcj_all))); (case e1 => rfl))

local macro_rules | `(tactic| ktr_unf) => `(tactic| with_reducible refine' sign_of_whole_spec _ _)
theorem zeros_below_spec (n : Int) (t : Tok) : Cx w mean mg mb 133 3 (fun _ => True) [.int n t] (RetInt (zb n)) := by
  unfold Cx
  k_fill
  intro dp un gd cn cs a ccd cl outer A₀ base h₀ L m news s Q E B F X N T hk hpre hd hu hret
  refine wpAny_call ?_
  k_dflt ktr_enter
  k_steps
  all_goals (refine' end_int hret ?e1 ?e2 ?e3; (case e2 => k_asm); (case e3 => first | k_asm | (refine' cb_drop ?cbN ?cbS; (case cbN => assumption); (case cbS => kcj_all))); (case e1 => rfl))

local macro_rules | `(tactic| ktr_unf) => `(tactic| with_reducible refine' zeros_below_spec _ _)
theorem with_sticky_spec (n : Int) (t : Tok) (b : Bool) : Cx w mean mg mb 161 3 (fun _ => True) [.int n t, .bool b] (RetInt (sticky n b)) := by
  unfold Cx
  k_fill
  intro dp un gd cn cs a ccd cl outer A₀ base h₀ L m news s Q E B F X N T hk hpre hd hu hret
  cases b
  all_goals (
  refine wpAny_call ?_
  k_dflt ktr_enter
  k_steps)
  all_goals (refine' end_int hret ?e1 ?e2 ?e3; (case e2 => k_asm); (case e3 => first | k_asm | (refine' cb_drop ?cbN ?cbS; (case cbN => assumption); (case cbS => kcj_all))); (case e1 => rfl))

local macro_rules | `(tactic| ktr_unf) => `(tactic| with_reducible refine' with_sticky_spec _ _ _)
theorem nearest_shift_spec (n g : Int) (t u : Tok) : Cx w mean mg mb 147 3 (fun _ => 0 ≤ n ∧ 1 ≤ g ∧ g ≤ 100000) [.int n t, .int g u] (RetInt (nsh n g)) := by
  unfold Cx
  k_fill
  intro dp un gd cn cs a ccd cl outer A₀ base h₀ L m news s Q E B F X N T hk hpre hd hu hret
  obtain ⟨hp1, hp2, hp3⟩ := hpre
  refine wpAny_call ?_
  k_dflt ktr_enter
  k_steps
  all_goals (refine' end_int hret ?e1 ?e2 ?e3; (case e2 => k_asm); (case e3 => first | k_asm | (refine' cb_drop ?cbN ?cbS; (case cbN => assumption); (case cbS => kcj_all))); (case e1 => (law_clear; (try simp only [decide_eq_true_eq, decide_eq_false_iff_not, Bool.and_eq_true, Bool.not_eq_true', Bool.not_eq_false', Bool.not_eq_true] at *); unfold nsh; (repeat' split) <;> first | rfl | omega)))

local macro_rules | `(tactic| ktr_unf) => `(tactic| with_reducible refine' nearest_shift_spec _ _ _ _)
theorem real_spec (n e : Int) (t u : Tok) : Cx w mean mg mb 108 4 (fun _ => True) [.int n t, .int e u] (RetReal w n e) := by
  unfold Cx
  k_fill
  intro dp un gd cn cs a ccd cl outer A₀ base h₀ L m news s Q E B F X N T hk hpre hd hu hret
  k_dflt (refine' call_cls ?k1 ?k2 ?k3 ?k4 ?k5 ?k6 ?_; (case k1 => k_asm); (case k2 => k_asm); (case k3 => k_asm); (case k4 => k_is); (case k5 => k_is); (case k6 => k_is); k_whole; intro x' d' h' F' N' l1 l2; (try k_lt2 l2); (try k_sweep))
  k_dflt ktr_enter
  k_steps
  exact real_end (t1 := _) (t2 := _) (tm := _) (te := _) hret (by assumption) (by assumption) l1 l2

local macro_rules | `(tactic| ktr_unf) => `(tactic| with_reducible refine' real_spec _ _ _ _)
theorem lean_spec (n e : Int) (t u : Tok) : Cx w mean mg mb 140 10 (fun _ => leanOk n e) [.int n t, .int e u] (RetReal w (leanF n e).1 (leanF n e).2) := by
  unfold Cx
  k_fill
  intro dp un gd cn cs a ccd cl outer A₀ base h₀ L m news s Q E B F X N T hk hpre hd hu hret
  by_cases hz : n = 0
  · subst hz
    refine wpAny_call ?_
    k_dflt ktr_enter
    k_steps
    (refine' end_real hret ?F ?N ?e1 ?e2 ?hs ?hl ?l2; (case F => k_asm); (case N => k_asm); (case l2 => assumption); (case hs => (intro p9 hp9; repeat (first | exact hp9 | apply List.Mem.tail))); (case hl => (first | assumption | exact ktn_ltOf (by assumption) | exact ktn_ltOf (And.right (by assumption)) | exact ktn_ltOf (And.right (And.right (by assumption))) | exact ktn_ltOf (And.right (And.right (And.right (by assumption)))) | exact ktn_ltOf (And.right (And.right (And.right (And.right (by assumption))))) | exact ktn_ltOf (And.right (And.right (And.right (And.right (And.right (by assumption)))))))); (case e1 => rfl); (case e2 => rfl))
  · have hz2 := zb_nonneg hz
    obtain ⟨hp1, hp2⟩ := hpre hz
    have hv1 : n.fdiv (2 ^ (zb n).toNat) = (leanF n e).1 := by unfold leanF; rw [if_neg hz]
    have hv2 : e + zb n = (leanF n e).2 := by unfold leanF; rw [if_neg hz]
    rw [← hv1, ← hv2] at hret
    refine wpAny_call ?_
    k_dflt ktr_enter
    k_steps
    (refine' end_real hret ?F ?N ?e1 ?e2 ?hs ?hl ?l2; (case F => k_asm); (case N => k_asm); (case l2 => assumption); (case hs => (intro p9 hp9; repeat (first | exact hp9 | apply List.Mem.tail))); (case hl => (first | assumption | exact ktn_ltOf (by assumption) | exact ktn_ltOf (And.right (by assumption)) | exact ktn_ltOf (And.right (And.right (by assumption))) | exact ktn_ltOf (And.right (And.right (And.right (by assumption)))) | exact ktn_ltOf (And.right (And.right (And.right (And.right (by assumption))))) | exact ktn_ltOf (And.right (And.right (And.right (And.right (And.right (by assumption)))))))); (case e1 => rfl); (case e2 => rfl))

local macro_rules | `(tactic| ktr_unf) => `(tactic| with_reducible refine' lean_spec _ _ _ _)
theorem shifted_round_spec (p n e : Int) (t u v : Tok) : Cx w mean mg mb 154 20 (fun _ => srOk p n e) [.int p t, .int n u, .int e v] (RetReal w (shr p n e).1 (shr p n e).2) := by
  unfold Cx
  k_fill
  intro dp un gd cn cs a ccd cl outer A₀ base h₀ L m news s Q E B F X N T hk hpre hd hu hret
  have hl1 := sr_lean1 hpre
  by_cases hg : sz n - p ≤ 0
  · have hv : shr p n e = leanF n e := by unfold shr; rw [if_pos hg]
    rw [hv] at hret
    refine wpAny_call ?_
    k_dflt ktr_enter
    k_steps
    (refine' end_real hret ?F ?N ?e1 ?e2 ?hs ?hl ?l2; (case F => k_asm); (case N => k_asm); (case l2 => assumption); (case hs => (intro p9 hp9; repeat (first | exact hp9 | apply List.Mem.tail))); (case hl => (first | assumption | exact ktn_ltOf (by assumption) | exact ktn_ltOf (And.right (by assumption)) | exact ktn_ltOf (And.right (And.right (by assumption))) | exact ktn_ltOf (And.right (And.right (And.right (by assumption)))) | exact ktn_ltOf (And.right (And.right (And.right (And.right (by assumption))))) | exact ktn_ltOf (And.right (And.right (And.right (And.right (And.right (by assumption)))))))); (case e1 => rfl); (case e2 => rfl))
  · have hl2 := sr_lean2 hpre hg
    have hm := sg_mul n (nsh (if n < 0 then -n else n) (sz n - p))
    obtain ⟨hp1, hp2, hp3, hp4, hp5⟩ := hpre
    have hv : shr p n e = leanF (sg n * nsh (if n < 0 then -n else n) (sz n - p)) (e + (sz n - p)) := by unfold shr; rw [if_neg hg]
    rw [hv] at hret
    have ha : 0 ≤ (if n < 0 then -n else n) := by split <;> omega
    have hns : 0 ≤ (if n < 0 then -n else n) ∧ 1 ≤ (sz n - p) ∧ (sz n - p) ≤ 100000 := ⟨ha, by omega, by omega⟩
    refine wpAny_call ?_
    k_dflt ktr_enter
    k_steps
    (refine' end_real hret ?F ?N ?e1 ?e2 ?hs ?hl ?l2; (case F => k_asm); (case N => k_asm); (case l2 => assumption); (case hs => (intro p9 hp9; repeat (first | exact hp9 | apply List.Mem.tail))); (case hl => (first | assumption | exact ktn_ltOf (by assumption) | exact ktn_ltOf (And.right (by assumption)) | exact ktn_ltOf (And.right (And.right (by assumption))) | exact ktn_ltOf (And.right (And.right (And.right (by assumption)))) | exact ktn_ltOf (And.right (And.right (And.right (And.right (by assumption))))) | exact ktn_ltOf (And.right (And.right (And.right (And.right (And.right (by assumption)))))))); (case e1 => rfl); (case e2 => rfl))

local macro_rules | `(tactic| ktr_unf) => `(tactic| with_reducible refine' shifted_round_spec _ _ _ _ _ _)
theorem place_of_spec (x1 dx1 : Addr) (m1 e1 : Int) (ta1 : TK) : Cx w mean mg mb 175 8 (fun news => ((x1, instObj 108 dx1) ∈ news ∧ (dx1, RD w m1 e1 ta1) ∈ news)) [.ref x1] (RetInt (sz m1 + e1)) := by
  unfold Cx
  k_fill
  intro dp un gd cn cs a ccd cl outer A₀ base h₀ L m news s Q E B F X N T hk hpre hd hu hret
  obtain ⟨hm1, hm2⟩ := hpre
  refine wpAny_call ?_
  k_dflt ktr_enter
  k_steps
  all_goals (refine' end_int hret ?e1 ?e2 ?e3; (case e2 => k_asm); (case e3 => first | k_asm | (refine' cb_drop ?cbN ?cbS; (case cbN => assumption); (case cbS => kcj_all))); (case e1 => rfl))

local macro_rules | `(tactic| ktr_unf) => `(tactic| with_reducible refine' place_of_spec _ _ _ _ _)
theorem sign_of_spec (x1 dx1 : Addr) (m1 e1 : Int) (ta1 : TK) : Cx w mean mg mb 182 8 (fun news => ((x1, instObj 108 dx1) ∈ news ∧ (dx1, RD w m1 e1 ta1) ∈ news)) [.ref x1] (RetInt (sg m1)) := by
  unfold Cx
  k_fill
  intro dp un gd cn cs a ccd cl outer A₀ base h₀ L m news s Q E B F X N T hk hpre hd hu hret
  obtain ⟨hm1, hm2⟩ := hpre
  refine wpAny_call ?_
  k_dflt ktr_enter
  k_steps
  all_goals (refine' end_int hret ?e1 ?e2 ?e3; (case e2 => k_asm); (case e3 => first | k_asm | (refine' cb_drop ?cbN ?cbS; (case cbN => assumption); (case cbS => kcj_all))); (case e1 => rfl))

local macro_rules | `(tactic| ktr_unf) => `(tactic| with_reducible refine' sign_of_spec _ _ _ _ _)
theorem negative_spec (x1 dx1 : Addr) (m1 e1 : Int) (ta1 : TK) : Cx w mean mg mb 189 8 (fun news => ((x1, instObj 108 dx1) ∈ news ∧ (dx1, RD w m1 e1 ta1) ∈ news)) [.ref x1] (RetReal w (0 - m1) e1) := by
  unfold Cx
  k_fill
  intro dp un gd cn cs a ccd cl outer A₀ base h₀ L m news s Q E B F X N T hk hpre hd hu hret
  obtain ⟨hm1, hm2⟩ := hpre
  refine wpAny_call ?_
  k_dflt ktr_enter
  k_steps
  (refine' end_real hret ?F ?N ?e1 ?e2 ?hs ?hl ?l2; (case F => k_asm); (case N => k_asm); (case l2 => assumption); (case hs => (intro p9 hp9; repeat (first | exact hp9 | apply List.Mem.tail))); (case hl => (first | assumption | exact ktn_ltOf (by assumption) | exact ktn_ltOf (And.right (by assumption)) | exact ktn_ltOf (And.right (And.right (by assumption))) | exact ktn_ltOf (And.right (And.right (And.right (by assumption)))) | exact ktn_ltOf (And.right (And.right (And.right (And.right (by assumption))))) | exact ktn_ltOf (And.right (And.right (And.right (And.right (And.right (by assumption)))))))); (case e1 => rfl); (case e2 => rfl))

local macro_rules | `(tactic| ktr_unf) => `(tactic| with_reducible refine' negative_spec _ _ _ _ _)
theorem magnitude_spec (x1 dx1 : Addr) (m1 e1 : Int) (ta1 : TK) : Cx w mean mg mb 196 8 (fun news => ((x1, instObj 108 dx1) ∈ news ∧ (dx1, RD w m1 e1 ta1) ∈ news)) [.ref x1] (RetReal w (if m1 < 0 then -m1 else m1) e1) := by
  unfold Cx
  k_fill
  intro dp un gd cn cs a ccd cl outer A₀ base h₀ L m news s Q E B F X N T hk hpre hd hu hret
  obtain ⟨hm1, hm2⟩ := hpre
  refine wpAny_call ?_
  k_dflt ktr_enter
  k_steps
  (refine' end_real hret ?F ?N ?e1 ?e2 ?hs ?hl ?l2; (case F => k_asm); (case N => k_asm); (case l2 => assumption); (case hs => (intro p9 hp9; repeat (first | exact hp9 | apply List.Mem.tail))); (case hl => (first | assumption | exact ktn_ltOf (by assumption) | exact ktn_ltOf (And.right (by assumption)) | exact ktn_ltOf (And.right (And.right (by assumption))) | exact ktn_ltOf (And.right (And.right (And.right (by assumption)))) | exact ktn_ltOf (And.right (And.right (And.right (And.right (by assumption))))) | exact ktn_ltOf (And.right (And.right (And.right (And.right (And.right (by assumption)))))))); (case e1 => rfl); (case e2 => rfl))

local macro_rules | `(tactic| ktr_unf) => `(tactic| with_reducible refine' magnitude_spec _ _ _ _ _)
theorem same_real_spec (x1 dx1 : Addr) (m1 e1 : Int) (ta1 : TK) (x2 dx2 : Addr) (m2 e2 : Int) (ta2 : TK) : Cx w mean mg mb 203 8 (fun news => ((x1, instObj 108 dx1) ∈ news ∧ (dx1, RD w m1 e1 ta1) ∈ news) ∧ ((x2, instObj 108 dx2) ∈ news ∧ (dx2, RD w m2 e2 ta2) ∈ news)) [.ref x1, .ref x2] (RetBool (decide (m1 = m2 ∧ e1 = e2))) := by
  unfold Cx
  k_fill
  intro dp un gd cn cs a ccd cl outer A₀ base h₀ L m news s Q E B F X N T hk hpre hd hu hret
  obtain ⟨⟨hm1, hm2⟩, hm3, hm4⟩ := hpre
  refine wpAny_call ?_
  k_dflt ktr_enter
  k_steps
  all_goals (refine' end_bool hret ?e1 ?e2 ?e3; (case e2 => k_asm); (case e3 => first | k_asm | (refine' cb_drop ?cbN ?cbS; (case cbN => assumption); (case cbS => kcj_all))); (case e1 => (law_clear; by_cases h1 : m1 = m2 <;> by_cases h2 : e1 = e2 <;> simp_all)))

local macro_rules | `(tactic| ktr_unf) => `(tactic| with_reducible refine' same_real_spec _ _ _ _ _ _ _ _ _ _)
theorem compare_magnitudes_spec (x1 dx1 : Addr) (m1 e1 : Int) (ta1 : TK) (x2 dx2 : Addr) (m2 e2 : Int) (ta2 : TK) : Cx w mean mg mb 210 12 (fun news => ((x1, instObj 108 dx1) ∈ news ∧ (dx1, RD w m1 e1 ta1) ∈ news) ∧ ((x2, instObj 108 dx2) ∈ news ∧ (dx2, RD w m2 e2 ta2) ∈ news) ∧ cmpOk m1 e1 m2 e2) [.ref x1, .ref x2] (RetInt (cmpM m1 e1 m2 e2)) := by
  unfold Cx
  k_fill
  intro dp un gd cn cs a ccd cl outer A₀ base h₀ L m news s Q E B F X N T hk hpre hd hu hret
  obtain ⟨⟨hm1, hm2⟩, ⟨hm3, hm4⟩, hb1, hb2, hb3, hb4, hb5, hb6⟩ := hpre
  refine wpAny_call ?_
  k_dflt ktr_enter
  k_steps
  all_goals (refine' end_int hret ?e1 ?e2 ?e3; (case e2 => k_asm); (case e3 => first | k_asm | (refine' cb_drop ?cbN ?cbS; (case cbN => assumption); (case cbS => kcj_all))); (case e1 => (law_clear; (try simp only [decide_eq_true_eq, decide_eq_false_iff_not, Bool.and_eq_true, Bool.not_eq_true', Bool.not_eq_false', Bool.not_eq_true] at *); unfold cmpM; (repeat' split) <;> first | rfl | omega)))

local macro_rules | `(tactic| ktr_unf) => `(tactic| with_reducible refine' compare_magnitudes_spec _ _ _ _ _ _ _ _ _ _)
theorem compare_reals_spec (x1 dx1 : Addr) (m1 e1 : Int) (ta1 : TK) (x2 dx2 : Addr) (m2 e2 : Int) (ta2 : TK) : Cx w mean mg mb 217 20 (fun news => ((x1, instObj 108 dx1) ∈ news ∧ (dx1, RD w m1 e1 ta1) ∈ news) ∧ ((x2, instObj 108 dx2) ∈ news ∧ (dx2, RD w m2 e2 ta2) ∈ news) ∧ cmpOk m1 e1 m2 e2) [.ref x1, .ref x2] (RetInt (cmpR m1 e1 m2 e2)) := by
  unfold Cx
  k_fill
  intro dp un gd cn cs a ccd cl outer A₀ base h₀ L m news s Q E B F X N T hk hpre hd hu hret
  obtain ⟨⟨hm1, hm2⟩, ⟨hm3, hm4⟩, hb⟩ := hpre
  have hba := cmp_abs hb
  refine wpAny_call ?_
  k_dflt ktr_enter
  k_steps
  all_goals (refine' end_int hret ?e1 ?e2 ?e3; (case e2 => k_asm); (case e3 => first | k_asm | (refine' cb_drop ?cbN ?cbS; (case cbN => assumption); (case cbS => kcj_all))); (case e1 => (law_clear; (try simp only [decide_eq_true_eq, decide_eq_false_iff_not, Bool.and_eq_true, Bool.not_eq_true', Bool.not_eq_false', Bool.not_eq_true] at *); unfold cmpR; (repeat' split) <;> first | rfl | omega)))

local macro_rules | `(tactic| ktr_unf) => `(tactic| with_reducible refine' compare_reals_spec _ _ _ _ _ _ _ _ _ _)
theorem far_sum_spec (p : Int) (u : Tok) (x1 dx1 : Addr) (m1 e1 : Int) (ta1 : TK) (x2 dx2 : Addr) (m2 e2 : Int) (ta2 : TK) : Cx w mean mg mb 224 30 (fun news => ((x1, instObj 108 dx1) ∈ news ∧ (dx1, RD w m1 e1 ta1) ∈ news) ∧ ((x2, instObj 108 dx2) ∈ news ∧ (dx2, RD w m2 e2 ta2) ∈ news) ∧ pOk p ∧ rOk m1 e1) [.int p u, .ref x1, .ref x2] (RetReal w (farF p m1 e1 m2).1 (farF p m1 e1 m2).2) := by
  unfold Cx
  k_fill
  intro dp un gd cn cs a ccd cl outer A₀ base h₀ L m news s Q E B F X N T hk hpre hd hu hret
  obtain ⟨⟨hm1, hm2⟩, ⟨hm3, hm4⟩, hp, hr⟩ := hpre
  have hs := far_ok m2 hp hr
  obtain ⟨hp1, hp2⟩ := hp
  obtain ⟨hr1, hr2, hr3⟩ := hr
  have hz := sz_nonneg m1
  refine wpAny_call ?_
  k_dflt ktr_enter
  k_steps
  (refine' end_real hret ?F ?N ?e1 ?e2 ?hs ?hl ?l2; (case F => k_asm); (case N => k_asm); (case l2 => assumption); (case hs => (intro p9 hp9; repeat (first | exact hp9 | apply List.Mem.tail))); (case hl => (first | assumption | exact ktn_ltOf (by assumption) | exact ktn_ltOf (And.right (by assumption)) | exact ktn_ltOf (And.right (And.right (by assumption))) | exact ktn_ltOf (And.right (And.right (And.right (by assumption)))) | exact ktn_ltOf (And.right (And.right (And.right (And.right (by assumption))))) | exact ktn_ltOf (And.right (And.right (And.right (And.right (And.right (by assumption)))))))); (case e1 => rfl); (case e2 => rfl))

local macro_rules | `(tactic| ktr_unf) => `(tactic| with_reducible refine' far_sum_spec _ _ _ _ _ _ _ _ _ _ _ _)
theorem multiply_reals_spec (p : Int) (u : Tok) (x1 dx1 : Addr) (m1 e1 : Int) (ta1 : TK) (x2 dx2 : Addr) (m2 e2 : Int) (ta2 : TK) : Cx w mean mg mb 245 30 (fun news => ((x1, instObj 108 dx1) ∈ news ∧ (dx1, RD w m1 e1 ta1) ∈ news) ∧ ((x2, instObj 108 dx2) ∈ news ∧ (dx2, RD w m2 e2 ta2) ∈ news) ∧ pOk p ∧ rOk m1 e1 ∧ rOk m2 e2) [.int p u, .ref x1, .ref x2] (RetReal w (mulF p m1 e1 m2 e2).1 (mulF p m1 e1 m2 e2).2) := by
  unfold Cx
  k_fill
  intro dp un gd cn cs a ccd cl outer A₀ base h₀ L m news s Q E B F X N T hk hpre hd hu hret
  obtain ⟨⟨hm1, hm2⟩, ⟨hm3, hm4⟩, hp, hr, hr2⟩ := hpre
  obtain ⟨hs, hmm⟩ := mul_ok hp hr hr2
  refine wpAny_call ?_
  k_dflt ktr_enter
  k_steps
  (refine' end_real hret ?F ?N ?e1 ?e2 ?hs ?hl ?l2; (case F => k_asm); (case N => k_asm); (case l2 => assumption); (case hs => (intro p9 hp9; repeat (first | exact hp9 | apply List.Mem.tail))); (case hl => (first | assumption | exact ktn_ltOf (by assumption) | exact ktn_ltOf (And.right (by assumption)) | exact ktn_ltOf (And.right (And.right (by assumption))) | exact ktn_ltOf (And.right (And.right (And.right (by assumption)))) | exact ktn_ltOf (And.right (And.right (And.right (And.right (by assumption))))) | exact ktn_ltOf (And.right (And.right (And.right (And.right (And.right (by assumption)))))))); (case e1 => rfl); (case e2 => rfl))

local macro_rules | `(tactic| ktr_unf) => `(tactic| with_reducible refine' multiply_reals_spec _ _ _ _ _ _ _ _ _ _ _ _)
theorem rounded_spec (p y z : Int) (t u v : Tok) : Cx w mean mg mb 168 30 (fun _ => rndOk p y z) [.int p t, .int y u, .int z v] (RetReal w (rndF p y z).1 (rndF p y z).2) := by
  unfold Cx
  k_fill
  intro dp un gd cn cs a ccd cl outer A₀ base h₀ L m news s Q E B F X N T hk hpre hd hu hret
  have hq := hpre
  obtain ⟨⟨hp1, hp2⟩, hb0, ha, hb⟩ := hpre
  have hz1 := sz_nonneg y
  have hz2 := sz_nonneg z
  have hz3 := sz_le ha
  have hz4 := sz_le hb
  have hz5 := bits_abs ha
  by_cases h0 : y = 0
  · have hv : rndF p y z = (0, 0) := by unfold rndF; rw [if_pos h0]
    rw [hv] at hret
    refine wpAny_call ?_
    k_dflt ktr_enter
    k_steps
    (refine' end_real hret ?F ?N ?e1 ?e2 ?hs ?hl ?l2; (case F => k_asm); (case N => k_asm); (case l2 => assumption); (case hs => (intro p9 hp9; repeat (first | exact hp9 | apply List.Mem.tail))); (case hl => (first | assumption | exact ktn_ltOf (by assumption) | exact ktn_ltOf (And.right (by assumption)) | exact ktn_ltOf (And.right (And.right (by assumption))) | exact ktn_ltOf (And.right (And.right (And.right (by assumption)))) | exact ktn_ltOf (And.right (And.right (And.right (And.right (by assumption))))) | exact ktn_ltOf (And.right (And.right (And.right (And.right (And.right (by assumption)))))))); (case e1 => rfl); (case e2 => rfl))
  · by_cases hs : 0 ≤ p + 2 + sz z - sz y
    · have hk1 := rnd_ok1 hq h0 hs
      unfold rndF at hret
      rw [if_neg h0, if_pos hs] at hret
      refine wpAny_call ?_
      k_dflt ktr_enter
      k_steps
      (refine' end_real hret ?F ?N ?e1 ?e2 ?hs ?hl ?l2; (case F => k_asm); (case N => k_asm); (case l2 => assumption); (case hs => (intro p9 hp9; repeat (first | exact hp9 | apply List.Mem.tail))); (case hl => (first | assumption | exact ktn_ltOf (by assumption) | exact ktn_ltOf (And.right (by assumption)) | exact ktn_ltOf (And.right (And.right (by assumption))) | exact ktn_ltOf (And.right (And.right (And.right (by assumption)))) | exact ktn_ltOf (And.right (And.right (And.right (And.right (by assumption))))) | exact ktn_ltOf (And.right (And.right (And.right (And.right (And.right (by assumption)))))))); (case e1 => rfl); (case e2 => rfl))
    · have hk1 := rnd_ok2 hq h0 hs
      have hz6 := rnd_b0 (0 - (p + 2 + sz z - sz y)) hb0
      have hz7 := rnd_bits (p := p) (a := y) hb hz3 hz2 hp1
      unfold rndF at hret
      rw [if_neg h0, if_neg hs] at hret
      refine wpAny_call ?_
      k_dflt ktr_enter
      k_steps
      (refine' end_real hret ?F ?N ?e1 ?e2 ?hs ?hl ?l2; (case F => k_asm); (case N => k_asm); (case l2 => assumption); (case hs => (intro p9 hp9; repeat (first | exact hp9 | apply List.Mem.tail))); (case hl => (first | assumption | exact ktn_ltOf (by assumption) | exact ktn_ltOf (And.right (by assumption)) | exact ktn_ltOf (And.right (And.right (by assumption))) | exact ktn_ltOf (And.right (And.right (And.right (by assumption)))) | exact ktn_ltOf (And.right (And.right (And.right (And.right (by assumption))))) | exact ktn_ltOf (And.right (And.right (And.right (And.right (And.right (by assumption)))))))); (case e1 => rfl); (case e2 => rfl))

local macro_rules | `(tactic| ktr_unf) => `(tactic| with_reducible refine' rounded_spec _ _ _ _ _ _)
theorem add_reals_spec (p : Int) (u : Tok) (x1 dx1 : Addr) (m1 e1 : Int) (ta1 : TK) (x2 dx2 : Addr) (m2 e2 : Int) (ta2 : TK) : Cx w mean mg mb 231 50 (fun news => ((x1, instObj 108 dx1) ∈ news ∧ (dx1, RD w m1 e1 ta1) ∈ news) ∧ ((x2, instObj 108 dx2) ∈ news ∧ (dx2, RD w m2 e2 ta2) ∈ news) ∧ pOk p ∧ rOk m1 e1 ∧ rOk m2 e2) [.int p u, .ref x1, .ref x2] (RetReal w (addF p m1 e1 m2 e2).1 (addF p m1 e1 m2 e2).2) := by
  unfold Cx
  k_fill
  intro dp un gd cn cs a ccd cl outer A₀ base h₀ L m news s Q E B F X N T hk hpre hd hu hret
  obtain ⟨⟨hm1, hm2⟩, ⟨hm3, hm4⟩, hp, hr1, hr2⟩ := hpre
  have hs0 := add_zero_ok hp hr1 hr2
  have hs1 := add_tot_ok hp hr1 hr2
  have hs2 := add_tot_ok hp hr2 hr1
  have hb1 := hr1.1
  have hb2 := hr1.2.1
  have hb3 := hr1.2.2
  have hb4 := hr2.1
  have hb5 := hr2.2.1
  have hb6 := hr2.2.2
  by_cases h0 : sg m1 = 0
  · have hv : addF p m1 e1 m2 e2 = shr p (m1 + m2) (e1 + e2) := by unfold addF; rw [if_pos (Or.inl h0)]
    rw [hv] at hret
    refine wpAny_call ?_
    k_dflt ktr_enter
    k_steps
    (refine' end_real hret ?F ?N ?e1 ?e2 ?hs ?hl ?l2; (case F => k_asm); (case N => k_asm); (case l2 => assumption); (case hs => (intro p9 hp9; repeat (first | exact hp9 | apply List.Mem.tail))); (case hl => (first | assumption | exact ktn_ltOf (by assumption) | exact ktn_ltOf (And.right (by assumption)) | exact ktn_ltOf (And.right (And.right (by assumption))) | exact ktn_ltOf (And.right (And.right (And.right (by assumption)))) | exact ktn_ltOf (And.right (And.right (And.right (And.right (by assumption))))) | exact ktn_ltOf (And.right (And.right (And.right (And.right (And.right (by assumption)))))))); (case e1 => rfl); (case e2 => rfl))
  · by_cases h1 : sg m2 = 0
    · have hv : addF p m1 e1 m2 e2 = shr p (m1 + m2) (e1 + e2) := by unfold addF; rw [if_pos (Or.inr h1)]
      rw [hv] at hret
      refine wpAny_call ?_
      k_dflt ktr_enter
      k_steps
      (refine' end_real hret ?F ?N ?e1 ?e2 ?hs ?hl ?l2; (case F => k_asm); (case N => k_asm); (case l2 => assumption); (case hs => (intro p9 hp9; repeat (first | exact hp9 | apply List.Mem.tail))); (case hl => (first | assumption | exact ktn_ltOf (by assumption) | exact ktn_ltOf (And.right (by assumption)) | exact ktn_ltOf (And.right (And.right (by assumption))) | exact ktn_ltOf (And.right (And.right (And.right (by assumption)))) | exact ktn_ltOf (And.right (And.right (And.right (And.right (by assumption))))) | exact ktn_ltOf (And.right (And.right (And.right (And.right (And.right (by assumption)))))))); (case e1 => rfl); (case e2 => rfl))
    · have hn : ¬ (sg m1 = 0 ∨ sg m2 = 0) := fun h => h.elim h0 h1
      by_cases h2 : sz m2 + e2 ≤ sz m1 + e1
      · by_cases h3 : sz m2 + e2 < (if sz m1 + e1 - p - 3 < e1 then sz m1 + e1 - p - 3 else e1)
        · have hv : addF p m1 e1 m2 e2 = farF p m1 e1 m2 := by unfold addF addG; rw [if_neg hn, if_pos h2, if_pos h3]
          rw [hv] at hret
          refine wpAny_call ?_
          k_dflt ktr_enter
          k_steps
          (refine' end_real hret ?F ?N ?e1 ?e2 ?hs ?hl ?l2; (case F => k_asm); (case N => k_asm); (case l2 => assumption); (case hs => (intro p9 hp9; repeat (first | exact hp9 | apply List.Mem.tail))); (case hl => (first | assumption | exact ktn_ltOf (by assumption) | exact ktn_ltOf (And.right (by assumption)) | exact ktn_ltOf (And.right (And.right (by assumption))) | exact ktn_ltOf (And.right (And.right (And.right (by assumption)))) | exact ktn_ltOf (And.right (And.right (And.right (And.right (by assumption))))) | exact ktn_ltOf (And.right (And.right (And.right (And.right (And.right (by assumption)))))))); (case e1 => rfl); (case e2 => rfl))
        · have hv : addF p m1 e1 m2 e2 = shr p (totF m1 e1 m2 e2) (if e2 < e1 then e2 else e1) := by unfold addF addG; rw [if_neg hn, if_pos h2, if_neg h3]
          rw [hv] at hret
          refine wpAny_call ?_
          k_dflt ktr_enter
          k_steps
          (refine' end_real hret ?F ?N ?e1 ?e2 ?hs ?hl ?l2; (case F => k_asm); (case N => k_asm); (case l2 => assumption); (case hs => (intro p9 hp9; repeat (first | exact hp9 | apply List.Mem.tail))); (case hl => (first | assumption | exact ktn_ltOf (by assumption) | exact ktn_ltOf (And.right (by assumption)) | exact ktn_ltOf (And.right (And.right (by assumption))) | exact ktn_ltOf (And.right (And.right (And.right (by assumption)))) | exact ktn_ltOf (And.right (And.right (And.right (And.right (by assumption))))) | exact ktn_ltOf (And.right (And.right (And.right (And.right (And.right (by assumption)))))))); (case e1 => rfl); (case e2 => rfl))
      · by_cases h3 : sz m1 + e1 < (if sz m2 + e2 - p - 3 < e2 then sz m2 + e2 - p - 3 else e2)
        · have hv : addF p m1 e1 m2 e2 = farF p m2 e2 m1 := by unfold addF addG; rw [if_neg hn, if_neg h2, if_pos h3]
          rw [hv] at hret
          refine wpAny_call ?_
          k_dflt ktr_enter
          k_steps
          (refine' end_real hret ?F ?N ?e1 ?e2 ?hs ?hl ?l2; (case F => k_asm); (case N => k_asm); (case l2 => assumption); (case hs => (intro p9 hp9; repeat (first | exact hp9 | apply List.Mem.tail))); (case hl => (first | assumption | exact ktn_ltOf (by assumption) | exact ktn_ltOf (And.right (by assumption)) | exact ktn_ltOf (And.right (And.right (by assumption))) | exact ktn_ltOf (And.right (And.right (And.right (by assumption)))) | exact ktn_ltOf (And.right (And.right (And.right (And.right (by assumption))))) | exact ktn_ltOf (And.right (And.right (And.right (And.right (And.right (by assumption)))))))); (case e1 => rfl); (case e2 => rfl))
        · have hv : addF p m1 e1 m2 e2 = shr p (totF m2 e2 m1 e1) (if e1 < e2 then e1 else e2) := by unfold addF addG; rw [if_neg hn, if_neg h2, if_neg h3]
          rw [hv] at hret
          refine wpAny_call ?_
          k_dflt ktr_enter
          k_steps
          (refine' end_real hret ?F ?N ?e1 ?e2 ?hs ?hl ?l2; (case F => k_asm); (case N => k_asm); (case l2 => assumption); (case hs => (intro p9 hp9; repeat (first | exact hp9 | apply List.Mem.tail))); (case hl => (first | assumption | exact ktn_ltOf (by assumption) | exact ktn_ltOf (And.right (by assumption)) | exact ktn_ltOf (And.right (And.right (by assumption))) | exact ktn_ltOf (And.right (And.right (And.right (by assumption)))) | exact ktn_ltOf (And.right (And.right (And.right (And.right (by assumption))))) | exact ktn_ltOf (And.right (And.right (And.right (And.right (And.right (by assumption)))))))); (case e1 => rfl); (case e2 => rfl))

local macro_rules | `(tactic| ktr_unf) => `(tactic| with_reducible refine' add_reals_spec _ _ _ _ _ _ _ _ _ _ _ _)
theorem subtract_reals_spec (p : Int) (u : Tok) (x1 dx1 : Addr) (m1 e1 : Int) (ta1 : TK) (x2 dx2 : Addr) (m2 e2 : Int) (ta2 : TK) : Cx w mean mg mb 238 60 (fun news => ((x1, instObj 108 dx1) ∈ news ∧ (dx1, RD w m1 e1 ta1) ∈ news) ∧ ((x2, instObj 108 dx2) ∈ news ∧ (dx2, RD w m2 e2 ta2) ∈ news) ∧ pOk p ∧ rOk m1 e1 ∧ rOk m2 e2) [.int p u, .ref x1, .ref x2] (RetReal w (addF p m1 e1 (0 - m2) e2).1 (addF p m1 e1 (0 - m2) e2).2) := by
  unfold Cx
  k_fill
  intro dp un gd cn cs a ccd cl outer A₀ base h₀ L m news s Q E B F X N T hk hpre hd hu hret
  obtain ⟨⟨hm1, hm2⟩, ⟨hm3, hm4⟩, hp, hr, hr2⟩ := hpre
  have hr3 := neg_ok hr2
  refine wpAny_call ?_
  k_dflt ktr_enter
  k_steps
  (refine' end_real hret ?F ?N ?e1 ?e2 ?hs ?hl ?l2; (case F => k_asm); (case N => k_asm); (case l2 => assumption); (case hs => (intro p9 hp9; repeat (first | exact hp9 | apply List.Mem.tail))); (case hl => (first | assumption | exact ktn_ltOf (by assumption) | exact ktn_ltOf (And.right (by assumption)) | exact ktn_ltOf (And.right (And.right (by assumption))) | exact ktn_ltOf (And.right (And.right (And.right (by assumption)))) | exact ktn_ltOf (And.right (And.right (And.right (And.right (by assumption))))) | exact ktn_ltOf (And.right (And.right (And.right (And.right (And.right (by assumption)))))))); (case e1 => rfl); (case e2 => rfl))

local macro_rules | `(tactic| ktr_unf) => `(tactic| with_reducible refine' subtract_reals_spec _ _ _ _ _ _ _ _ _ _ _ _)
theorem divide_reals_spec (p : Int) (u : Tok) (x1 dx1 : Addr) (m1 e1 : Int) (ta1 : TK) (x2 dx2 : Addr) (m2 e2 : Int) (ta2 : TK) : Cx w mean mg mb 252 60 (fun news => ((x1, instObj 108 dx1) ∈ news ∧ (dx1, RD w m1 e1 ta1) ∈ news) ∧ ((x2, instObj 108 dx2) ∈ news ∧ (dx2, RD w m2 e2 ta2) ∈ news) ∧ pOk p ∧ rOk m1 e1 ∧ rOk m2 e2 ∧ m2 ≠ 0) [.int p u, .ref x1, .ref x2] (RetReal w (divF p m1 e1 m2 e2).1 (divF p m1 e1 m2 e2).2) := by
  unfold Cx
  k_fill
  intro dp un gd cn cs a ccd cl outer A₀ base h₀ L m news s Q E B F X N T hk hpre hd hu hret
  obtain ⟨⟨hm1, hm2⟩, ⟨hm3, hm4⟩, hp, hr, hr2, h0⟩ := hpre
  obtain ⟨hk1, hk2, hk3⟩ := div_ok hp hr hr2 h0
  refine wpAny_call ?_
  k_dflt ktr_enter
  k_steps
  (refine' end_real hret ?F ?N ?e1 ?e2 ?hs ?hl ?l2; (case F => k_asm); (case N => k_asm); (case l2 => assumption); (case hs => (intro p9 hp9; repeat (first | exact hp9 | apply List.Mem.tail))); (case hl => (first | assumption | exact ktn_ltOf (by assumption) | exact ktn_ltOf (And.right (by assumption)) | exact ktn_ltOf (And.right (And.right (by assumption))) | exact ktn_ltOf (And.right (And.right (And.right (by assumption)))) | exact ktn_ltOf (And.right (And.right (And.right (And.right (by assumption))))) | exact ktn_ltOf (And.right (And.right (And.right (And.right (And.right (by assumption)))))))); (case e1 => rfl); (case e2 => rfl))

local macro_rules | `(tactic| ktr_unf) => `(tactic| with_reducible refine' divide_reals_spec _ _ _ _ _ _ _ _ _ _ _ _)
theorem law_at_spec (x1 dx1 : Addr) (m1 e1 : Int) (ta1 : TK) (l : Int) (u : Tok) : Cx w mean mg mb 287 20 (fun news => ((x1, instObj 108 dx1) ∈ news ∧ (dx1, RD w m1 e1 ta1) ∈ news) ∧ rOk m1 e1 ∧ l ≤ e1 ∧ -1000 ≤ l) [.ref x1, .int l u] (RetInt (m1 * 2 ^ (e1 - l).toNat)) := by
  unfold Cx
  k_fill
  intro dp un gd cn cs a ccd cl outer A₀ base h₀ L m news s Q E B F X N T hk hpre hd hu hret
  obtain ⟨⟨hm1, hm2⟩, ⟨hr1, hr2, hr3⟩, hl1, hl2⟩ := hpre
  refine wpAny_call ?_
  k_dflt ktr_enter
  k_steps
  all_goals (refine' end_int hret ?e1 ?e2 ?e3; (case e2 => k_asm); (case e3 => first | k_asm | (refine' cb_drop ?cbN ?cbS; (case cbN => assumption); (case cbS => kcj_all))); (case e1 => rfl))

local macro_rules | `(tactic| ktr_unf) => `(tactic| with_reducible refine' law_at_spec _ _ _ _ _ _ _)
theorem sqrt_zero_spec (p : Int) (u : Tok) (x1 dx1 : Addr) (e1 : Int) (ta1 : TK) : Cx w mean mg mb 266 60 (fun news => (x1, instObj 108 dx1) ∈ news ∧ (dx1, RD w 0 e1 ta1) ∈ news) [.int p u, .ref x1] (RetRef x1) := by
  unfold Cx
  k_fill
  intro dp un gd cn cs a ccd cl outer A₀ base h₀ L m news s Q E B F X N T hk hpre hd hu hret
  obtain ⟨hm1, hm2⟩ := hpre
  refine wpAny_call ?_
  k_dflt ktr_enter
  k_steps
  all_goals exact hret _ _ (by k_asm) (by k_asm)


def RtEnd (n f : Int) (h₀ : Heap) (L : Addr) (m₀ : Str → Option Value) (news : List (Addr × Obj)) (s : Shared) (fl : Flow) (s₂ : Shared) : Prop :=
  fl = .next ∧ ∃ (f' b' : Int) (tf tb : Tok) (h' : Heap) (tk : Nat) (m' : Str → Option Value), s₂ = { s with heap := h', toks := tk } ∧ Fr h₀ L h' m' ∧ News h₀ L h' news ∧
    m' (Str.ofString "found") = some (.int f' tf) ∧ m' (Str.ofString "better") = some (.int b' tb) ∧ (∀ z, z ≠ Str.ofString "found" → z ≠ Str.ofString "better" → m' z = m₀ z) ∧ RP n f' b' ∧ f' < f
theorem rt_while {prog : Program} {A : Around} {E : Value → Shared → Prop} {Q : Flow → Shared → Prop} {s : Shared} {env : Env} {h₀ : Heap} {L : Addr} {test : Expr} {body : List Stmt} {pos : Pos} {m₀ : Str → Option Value} {news : List (Addr × Obj)} {n f0 b0 : Int} {t0 t1 : Tok}
    (F : Fr h₀ L s.heap m₀) (N : News h₀ L s.heap news) (h1 : m₀ (Str.ofString "found") = some (.int f0 t0)) (h2 : m₀ (Str.ofString "better") = some (.int b0 t1)) (hp : RP n f0 b0)
    (turn : ∀ (f b : Int) (tf tb : Tok) (u : Str → Option Value) h tk, RP n f b → (0 < f ∧ 0 < b ∧ Builtin.Int.intBits f ≤ 4000 ∧ Builtin.Int.intBits b ≤ 5000) → Fr h₀ L h (fun z => if z = Str.ofString "found" then some (Value.int f tf) else if z = Str.ofString "better" then some (Value.int b tb) else if [Str.ofString "found", Str.ofString "better"].contains z then u z else m₀ z) → News h₀ L h news →
      wpAny (model prog w) A (isTrue test env (eval test env)) (fun b s₂ =>
        if b = true then wpAny (model prog w) A (execs body env) (RtEnd n f h₀ L m₀ news s) E s₂ else Q .next s₂) E { s with heap := h, toks := tk })
    (hE : PassesOwn (model prog w) A env E) :
    wpAny (model prog w) A (exec (.While test body [] pos) env) Q E s := by
  refine ksw_while (σ := Int × Int × Tok × Tok) (fun _ => news) (fun c => [(Str.ofString "found", Value.int c.1 c.2.2.1), (Str.ofString "better", Value.int c.2.1 c.2.2.2)]) (fun _ => True) [Str.ofString "found", Str.ofString "better"] (fun c => RP n c.1 c.2.1) (fun c => c.1.toNat) (f0, b0, t0, t1) F N trivial ?_ hp ?_ hE
  · intro p hp
    rcases List.mem_cons.mp hp with rfl | hp
    · exact h1
    · rw [List.mem_singleton.mp hp]; exact h2
  · rintro ⟨f, b, tf, tb⟩ u h tk _ hP hF hN
    refine wpAny_mono (turn f b tf tb u h tk hP (rp_pos hP) hF hN) (fun bb s₂ q => ?_) fun _ _ x => x
    cases bb with
    | false => exact q
    | true =>
      simp only [if_true] at q ⊢
      refine wpAny_mono q (fun fl s₃ q => ?_) fun _ _ x => x
      obtain ⟨rfl, f', b', tf', tb', h', tk', m', rfl, F', N', e1, e2, e3, hP', hlt⟩ := q
      refine ⟨(f', b', tf', tb'), h', tk', m', news, rfl, F', N', fun p hp => hp, trivial, ?_, ?_, hP', ?_⟩
      · intro p hp
        rcases List.mem_cons.mp hp with rfl | hp
        · exact e1
        · rw [List.mem_singleton.mp hp]; exact e2
      · intro z hz hc
        exact e3 z (hz (Str.ofString "found", Value.int f' tf') (.head _)) (hz (Str.ofString "better", Value.int b' tb') (.tail _ (.head _)))
      · have := (rp_pos hP').1
        show f'.toNat < f.toNat
        omega
theorem rt_end {n f b f' : Int} {tf tb : Tok} {h₀ h' : Heap} {L : Addr} {m₀ m' : Str → Option Value} {news : List (Addr × Obj)} {s : Shared} {tk : Nat} (F' : Fr h₀ L h' m') (N' : News h₀ L h' news) (hP : RP n f b) (hl : b < f)
    (e1 : m' (Str.ofString "found") = some (.int b tf)) (e2 : m' (Str.ofString "better") = some (.int ((b + n.fdiv b).fdiv 2) tb)) (e3 : ∀ z, z ≠ Str.ofString "found" → z ≠ Str.ofString "better" → m' z = m₀ z) (ef : f' = f) : RtEnd n f' h₀ L m₀ news s .next { s with heap := h', toks := tk } := by
  subst ef
  exact ⟨rfl, _, _, tf, tb, h', tk, m', rfl, F', N', e1, e2, e3, rp_step hP hl, hl⟩
local macro_rules | `(tactic| walk_at "exec While Compare cons nil") => `(tactic| (k_here; (rename Fr _ _ _ _ => lF'); (rename News _ _ _ _ => lN'); (rename RP _ _ _ => hR9); (with_unfolding_all refine' rt_while lF' lN' ?h1 ?h2 hR9 ?turn ?hE; (case h1 => rfl); (case h2 => rfl); (case hE => first | passes_own | with_unfolding_all passes_own)); (try clear lF' lN' hR9); intro f9 b9 tf9 tb9 u9 h9 tk9 hP9 hQ9 hF9 hN9; (obtain ⟨hQ91, hQ92, hQ93, hQ94⟩ := hQ9); walk_say "RT"; (try dsimp only); (try k_fold)))
theorem root_below_spec (n : Int) (t : Tok) : Cx w mean mg mb 259 10 (fun _ => 0 ≤ n ∧ Builtin.Int.intBits n ≤ 4000) [.int n t] (RetInt (isq n)) := by
  unfold Cx
  k_fill
  intro dp un gd cn cs a ccd cl outer A₀ base h₀ L m news s Q E B F X N T hk hpre hd hu hret
  obtain ⟨hn, hb⟩ := hpre
  by_cases h0 : n = 0
  · refine wpAny_call ?_
    k_dflt ktr_enter
    k_steps
    all_goals (refine' end_int hret ?e1 ?e2 ?e3; (case e2 => k_asm); (case e3 => first | k_asm | (refine' cb_drop ?cbN ?cbS; (case cbN => assumption); (case cbS => kcj_all))); (case e1 => (subst h0; rfl)))
  · obtain ⟨hs1, hs2⟩ := rp_sh hb
    have hr0 := rp_start hn h0 hb
    obtain ⟨hr1, hr2, hr3, hr4⟩ := rp_pos hr0
    refine wpAny_call ?_
    k_dflt ktr_enter
    k_steps
    · (refine' rt_end (tf := ?qf) (tb := ?qb) ?qF ?qN ?qP ?ql ?q1 ?q2 ?q3 rfl; (case qF => k_asm); (case qN => k_asm); (case qP => assumption); (case ql => first | assumption | omega); (case q1 => rfl); (case q2 => rfl))
      intro z h1 h2
      have h3 : [Str.ofString "found", Str.ofString "better"].contains z = false := by simp [h1, h2]
      simp only [if_neg h1, if_neg h2, h3, Bool.false_eq_true, if_false]
    · (refine' end_int hret ?e1 ?e2 ?e3; (case e2 => k_asm); (case e3 => first | k_asm | (refine' cb_drop ?cbN ?cbS; (case cbN => assumption); (case cbS => kcj_all))); (case e1 => exact rp_end (by assumption) (by first | assumption | omega)))

local macro_rules | `(tactic| ktr_unf) => `(tactic| with_reducible refine' root_below_spec _ _)
theorem sqrt_real_spec (p : Int) (u : Tok) (x1 dx1 : Addr) (m1 e1 : Int) (ta1 : TK) : Cx w mean mg mb 266 60 (fun news => ((x1, instObj 108 dx1) ∈ news ∧ (dx1, RD w m1 e1 ta1) ∈ news) ∧ pOk p ∧ rOk m1 e1 ∧ 0 < m1) [.int p u, .ref x1] (RetReal w (sqrtF p m1 e1).1 (sqrtF p m1 e1).2) := by
  unfold Cx
  k_fill
  intro dp un gd cn cs a ccd cl outer A₀ base h₀ L m news s Q E B F X N T hk hpre hd hu hret
  obtain ⟨⟨hm1, hm2⟩, hp, hr, h0⟩ := hpre
  obtain ⟨hk1, hk2, hk3, hk4, hk5, hk6⟩ := sq_ok hp hr h0
  have hr1 := hr.1
  have hr2 := hr.2.1
  have hr3 := hr.2.2
  obtain ⟨hp1, hp2⟩ := hp
  have hk1' := hk1
  have hk2' := hk2
  unfold sqSh at hk1' hk2'
  unfold sqrtF at hret
  rw [if_neg (by omega)] at hret
  refine wpAny_call ?_
  k_dflt ktr_enter
  k_steps
  (refine' end_real hret ?F ?N ?e1 ?e2 ?hs ?hl ?l2; (case F => k_asm); (case N => k_asm); (case l2 => assumption); (case hs => (intro p9 hp9; repeat (first | exact hp9 | apply List.Mem.tail))); (case hl => (first | assumption | exact ktn_ltOf (by assumption) | exact ktn_ltOf (And.right (by assumption)) | exact ktn_ltOf (And.right (And.right (by assumption))) | exact ktn_ltOf (And.right (And.right (And.right (by assumption)))) | exact ktn_ltOf (And.right (And.right (And.right (And.right (by assumption))))) | exact ktn_ltOf (And.right (And.right (And.right (And.right (And.right (by assumption)))))))); (case e1 => rfl); (case e2 => rfl))

local macro_rules | `(tactic| walk_at "call ref") => `(tactic| (k_here; (with_reducible show wpAny _ _ (call (Value.ref 266) [Value.int _ _, Value.ref _]) _ _ _); k_dflt (refine' cx_use ?k1 ?k2 ?k3 ?k4 ?k5 ?kK (sqrt_real_spec _ _ _ _ _ _ _) ?kp ?kd ?ku ?_; (case k1 => k_asm); (case k2 => k_asm); (case k3 => k_asm); (case k4 => k_asm); (case k5 => k_asm); (case kK => first | exact rfl | assumption); (case kp => (refine' ⟨⟨?kva, ?kvb⟩, ?kx⟩; (case kva => (repeat (first | exact List.Mem.head _ | refine' List.Mem.tail _ ?_ | assumption))); (case kvb => (repeat (first | exact List.Mem.head _ | refine' List.Mem.tail _ ?_ | assumption))); (case kx => (refine' ⟨?kx1, ?kx2, ?kx3⟩; (case kx1 => assumption); (case kx2 => assumption); (case kx3 => assumption))))); (case kd => ktr_room); (case ku => ktr_units)); refine' ret_real ?_; intro x9 dx9 t9 h9 tk9 F9 N9 l19 l29; (try k_lt l19); (try k_lt2 l29); (try k_sweep); (try dsimp only); (try k_fold)))
section

theorem news_sub {h₀ h : Heap} {L : Addr} {news news' : List (Addr × Obj)} (N : News h₀ L h news) (hs : ∀ p ∈ news', p ∈ news) : News h₀ L h news' := fun p hp => N p (hs p hp)
/-- the well: the list of what is left, and the number -/
def WellAt (W I : Addr) (rest news : List (Addr × Obj)) : Prop :=
  ∃ (ys : List Value) (ns : List Int) (k : Int) (t : Tok) (c1 c2 : Nat), (W, listOf #[.ref I, .int k t] c1) ∈ news ∧ (I, listOf ys.toArray c2) ∈ news ∧ IntsAre ys ns ∧ ys.length ≤ 100 ∧ 0 ≤ k ∧ k ≤ 65536 ∧
    (∀ p ∈ rest, p ∈ news) ∧ (∀ p ∈ rest, p.1 ≠ W) ∧ (∀ p ∈ rest, p.1 ≠ I) ∧ @Ne Nat W I
theorem well_at {W I : Addr} {rest news : List (Addr × Obj)} {ys : List Value} {ns : List Int} {k : Int} {t : Tok} {c1 c2 : Nat} (h1 : (W, listOf #[.ref I, .int k t] c1) ∈ news) (h2 : (I, listOf ys.toArray c2) ∈ news) (h3 : IntsAre ys ns) (h4 : ys.length ≤ 100) (h5 : 0 ≤ k) (h6 : k ≤ 65536)
    (h7 : (∀ p ∈ rest, p ∈ news) ∧ (∀ p ∈ rest, p.1 ≠ W) ∧ (∀ p ∈ rest, p.1 ≠ I) ∧ @Ne Nat W I) : WellAt W I rest news := ⟨ys, ns, k, t, c1, c2, h1, h2, h3, h4, h5, h6, h7⟩
local macro_rules | `(tactic| k_all) => `(tactic| assumption)
theorem ne_nil {prog : Program} {w : World} {A : Around} {E : Value → Shared → Prop} {s : Shared} {a b : Addr} {c c' : Nat} {h₀ : Heap} {L : Addr} {news : List (Addr × Obj)} {Q : Value → Shared → Prop} (N : News h₀ L s.heap news)
    (ha : (a, listOf ([] : List Value).toArray c) ∈ news) (hb : (b, listOf ([] : List Value).toArray c') ∈ news) (hu : A.units + 64 < cLine) (h : Q (.bool false) s) :
    wpAny (model prog w) A (compareOp .NotEq (.ref a) (.ref b)) Q E s := ke_ne_ints ⟨_, (N _ ha).1, rfl, _, rfl⟩ ⟨_, (N _ hb).1, rfl, _, rfl⟩ .nil .nil hu h
theorem ne_cons {prog : Program} {w : World} {A : Around} {E : Value → Shared → Prop} {s : Shared} {a b : Addr} {v : Value} {xs : List Value} {ns : List Int} {c c' : Nat} {h₀ : Heap} {L : Addr} {news : List (Addr × Obj)} {Q : Value → Shared → Prop} (N : News h₀ L s.heap news)
    (ha : (a, listOf (v :: xs).toArray c) ∈ news) (hb : (b, listOf ([] : List Value).toArray c') ∈ news) (hi : IntsAre (v :: xs) ns) (hu : A.units + 64 < cLine) (h : Q (.bool true) s) :
    wpAny (model prog w) A (compareOp .NotEq (.ref a) (.ref b)) Q E s := by
  cases hi with
  | cons n t hi => exact ke_ne_ints ⟨_, (N _ ha).1, rfl, _, rfl⟩ ⟨_, (N _ hb).1, rfl, _, rfl⟩ (.cons n t hi) .nil hu (by simpa using h)
theorem eq_made {prog : Program} {w : World} {A : Around} {E : Value → Shared → Prop} {s : Shared} {a b : Addr} {xs ys : List Value} {ns ms : List Int} {c c' : Nat} {h₀ : Heap} {L : Addr} {news : List (Addr × Obj)} {Q : Value → Shared → Prop} (N : News h₀ L s.heap news)
    (ha : (a, listOf xs.toArray c) ∈ news) (hb : (b, listOf ys.toArray c') ∈ news) (hi : IntsAre xs ns) (hj : IntsAre ys ms) (hu : A.units + 64 < cLine) (h : Q (.bool (decide (ns = ms))) s) :
    wpAny (model prog w) A (compareOp .Eq (.ref a) (.ref b)) Q E s := ke_eq_ints ⟨_, (N _ ha).1, rfl, _, rfl⟩ ⟨_, (N _ hb).1, rfl, _, rfl⟩ hi hj hu h
local macro_rules | `(tactic| walk_at "compareOp NotEq ref ref") => `(tactic| (k_here; k_dflt first | (refine' ne_nil ?N ?ha ?hb ?hu ?_; (case N => k_asm); (case ha => k_mem); (case hb => k_mem); (case hu => ktr_units)) | (refine' ne_cons ?N ?ha ?hb ?hi ?hu ?_; (case N => k_asm); (case ha => k_mem); (case hb => k_mem); (case hi => exact .cons _ _ (by assumption)); (case hu => ktr_units))))
theorem pop_first {prog : Program} {w : World} {A : Around} {E : Value → Shared → Prop} {s : Shared} {h₀ : Heap} {L D : Addr} {m : Str → Option Value} {news news' : List (Addr × Obj)} {n : Nat} {u : Tok} {y : Value} {q : List Value} {Q : Value → Shared → Prop}
    (F : Fr h₀ L s.heap m) (N : News h₀ L s.heap news) (U : Upd D (listOf (y :: q).toArray n) (listOf q.toArray (n + 1)) news news') (hz : q.length ≤ 100)
    (h : ∀ h', Fr h₀ L h' m → News h₀ L h' news' → Q y { s with heap := h' }) : wpAny (model prog w) A (call (.builtin "list.pop") [.ref D, .int 0 u]) Q E s :=
  kl_popAt (p := []) (q := q) (k := 0) F N (by decide) (by simp [seqIndex?]) (by simp [kl_cut]) U (by rw [sizeLine_eq]; simp only [List.length_cons]; omega) h
local macro_rules | `(tactic| walk_at "call builtin:list.pop") => `(tactic| (k_here; k_dflt (refine' pop_first ?F ?N ?U ?z ?_; (case F => k_asm); (case N => k_asm); (case U => k_upd); (case z => (simp only [List.length_cons] at *; omega))); (intro h' F' N')))
local macro_rules | `(tactic| walk_at "binaryOp Mod int int") => `(tactic| (k_here; (with_reducible refine mod_int' ?hb ?_ (hp := ?hp)); (case hb => k_dflt (first | assumption | decide | omega)); (case hp => k_dflt (first | exact Or.inl (PyProof.noPylong_of_log2 (by decide +kernel)) | exact Or.inl (noPy (by assumption) (by decide))))))

theorem drawn_end {W I : Addr} {many r k : Int} {rest nw news : List (Addr × Obj)} {h₀ h' : Heap} {L : Addr} {m : Str → Option Value} {s : Shared} {Q : Value → Shared → Prop} {t tk : Tok} {ys : List Value} {ns : List Int} {c1 c2 tk' : Nat} (hret : RetDrawn W I many rest h₀ L m news s Q)
    (F : Fr h₀ L h' m) (N : News h₀ L h' nw) (hW : (W, listOf #[.ref I, .int k tk] c1) ∈ nw) (hl : (I, listOf ys.toArray c2) ∈ nw) (hs : ∀ p ∈ rest, p ∈ nw) (h0 : 0 ≤ r) (h1 : r < many) (hI : IntsAre ys ns) (hy : ys.length ≤ 100) (hk0 : 0 ≤ k) (hk1 : k ≤ 65536) : Q (.int r t) { s with heap := h', toks := tk' } :=
  hret r t ys ns k tk c1 c2 h' tk' h0 h1 hI hy hk0 hk1 F (news_sub N (by
    intro p hp
    rcases List.mem_cons.mp hp with rfl | hp
    · exact hW
    · rcases List.mem_cons.mp hp with rfl | hp
      · exact hl
      · exact hs p hp))
theorem law_drawn_spec (W I : Addr) (rest : List (Addr × Obj)) (many : Int) (u : Tok) : Cx w mean mg mb 273 12 (fun news => WellAt W I rest news ∧ 1 ≤ many ∧ Builtin.Int.intBits many ≤ 100) [.ref W, .int many u] (RetDrawn W I many rest) := by
  unfold Cx
  k_fill
  intro dp un gd cn cs a ccd cl outer A₀ base h₀ L m news s Q E B F X N T hk hpre hd hu hret
  obtain ⟨⟨ys, ns, k, t, c1, c2, hw1, hw2, hI, hly, hk1, hk2, hr1, hr2, hr3, hWI⟩, hm1, hm2⟩ := hpre
  replace N := news_sub (news' := (W, listOf #[.ref I, .int k t] c1) :: (I, listOf ys.toArray c2) :: rest) N (by
    intro p hp
    rcases List.mem_cons.mp hp with rfl | hp
    · exact hw1
    · rcases List.mem_cons.mp hp with rfl | hp
      · exact hw2
      · exact hr1 p hp)
  clear hw1 hw2 hr1
  cases hI with
  | nil =>
    refine wpAny_call ?_
    k_dflt ktr_enter
    k_steps
    (refine' drawn_end hret ?F ?N ?hW ?hl ?hs ?h0 ?h1 ?hI ?hy ?k0 ?k1; (case F => k_asm); (case N => k_asm); (case hW => k_mem); (case hl => k_mem); (case hs => (intro p9 hp9; repeat (first | exact hp9 | apply List.Mem.tail))); (case h0 => exact Int.fmod_nonneg_of_pos _ (by omega)); (case h1 => exact Int.fmod_lt_of_pos _ (by omega)); (case hI => first | assumption | exact .nil); (case hy => (simp only [List.length_cons] at *; omega)); (case k0 => first | assumption | exact Int.fmod_nonneg_of_pos _ (by omega)); (case k1 => first | assumption | exact Int.le_of_lt_add_one (Int.fmod_lt_of_pos _ (by omega))))
  | cons hv hI =>
    refine wpAny_call ?_
    k_dflt ktr_enter
    k_steps
    (refine' drawn_end hret ?F ?N ?hW ?hl ?hs ?h0 ?h1 ?hI ?hy ?k0 ?k1; (case F => k_asm); (case N => k_asm); (case hW => k_mem); (case hl => k_mem); (case hs => (intro p9 hp9; repeat (first | exact hp9 | apply List.Mem.tail))); (case h0 => exact Int.fmod_nonneg_of_pos _ (by omega)); (case h1 => exact Int.fmod_lt_of_pos _ (by omega)); (case hI => first | assumption | exact .nil); (case hy => (simp only [List.length_cons] at *; omega)); (case k0 => first | assumption | exact Int.fmod_nonneg_of_pos _ (by omega)); (case k1 => first | assumption | exact Int.le_of_lt_add_one (Int.fmod_lt_of_pos _ (by omega))))


theorem bits9 : Builtin.Int.intBits 9 ≤ 100 := by decide +kernel
theorem bits2 : Builtin.Int.intBits 2 ≤ 100 := by decide +kernel
inductive RestOf (W I : Addr) : List (Addr × Obj) → List (Addr × Obj) → Prop
  | nil : RestOf W I [] []
  | isW {o ns r} : RestOf W I ns r → RestOf W I ((W, o) :: ns) r
  | isI {o ns r} : RestOf W I ns r → RestOf W I ((I, o) :: ns) r
  | keep {p : Addr × Obj} {ns r} : @Ne Nat p.1 W → @Ne Nat p.1 I → RestOf W I ns r → RestOf W I (p :: ns) (p :: r)
  | tail {r} : (∀ p ∈ r, p.1 ≠ W) → (∀ p ∈ r, p.1 ≠ I) → RestOf W I r r
theorem RestOf.spec {W I : Addr} (hWI : @Ne Nat W I) {ns r : List (Addr × Obj)} (h : RestOf W I ns r) : (∀ p ∈ r, p ∈ ns) ∧ (∀ p ∈ r, p.1 ≠ W) ∧ (∀ p ∈ r, p.1 ≠ I) ∧ @Ne Nat W I := by
  induction h with
  | nil => exact ⟨fun _ h => (nomatch h), fun _ h => (nomatch h), fun _ h => (nomatch h), hWI⟩
  | isW _ ih => exact ⟨fun p hp => .tail _ (ih.1 p hp), ih.2.1, ih.2.2.1, hWI⟩
  | isI _ ih => exact ⟨fun p hp => .tail _ (ih.1 p hp), ih.2.1, ih.2.2.1, hWI⟩
  | keep a b _ ih =>
    refine ⟨fun p hp => ?_, fun p hp => ?_, fun p hp => ?_, hWI⟩ <;> rcases List.mem_cons.mp hp with rfl | hp
    · exact .head _
    · exact .tail _ (ih.1 p hp)
    · exact a
    · exact ih.2.1 p hp
    · exact b
    · exact ih.2.2.1 p hp
  | tail a b => exact ⟨fun _ h => h, a, b, hWI⟩
local macro_rules | `(tactic| tb_rel) => `(tactic| first | exact RestOf.tail (by assumption) (by assumption) | exact RestOf.nil | exact RestOf.isW (by tb_rel) | exact RestOf.isI (by tb_rel) | exact RestOf.keep (by k_ne) (by k_ne) (by tb_rel))
local macro_rules | `(tactic| ktr_unf) => `(tactic| with_reducible refine' law_drawn_spec _ _ _ _ _)
local macro_rules | `(tactic| ktr_rel) => `(tactic| first | (refine' well_at ?w1 ?w2 ?w3 ?w4 ?w5 ?w6 ?w7; (case w1 => k_mem); (case w2 => k_mem); (case w3 => assumption); (case w4 => first | assumption | omega); (case w5 => first | assumption | omega); (case w6 => first | assumption | omega); (case w7 => (refine' RestOf.spec ?wn ?wr; (case wr => tb_rel); (case wn => first | assumption | k_ne)))) | exact (bits_pow (by assumption) (by assumption)).1 | exact (bits_pow (by assumption) (by assumption)).2 | exact bits9 | exact bits2 | exact draw_sr (by assumption) (by assumption) (by assumption) (by assumption) (by assumption) (by assumption))


theorem lawreal_end {w : World} {W I : Addr} {p n e k : Int} {rest news : List (Addr × Obj)} {h₀ h' : Heap} {L x dx : Addr} {m : Str → Option Value} {s : Shared} {Q : Value → Shared → Prop} {t : TK} {tk : Tok} {ys : List Value} {ns : List Int} {c1 c2 tk' : Nat} (hret : RetLawReal w W I p rest h₀ L m news s Q)
    (F : Fr h₀ L h' m) (N : News h₀ L h' ((x, instObj 108 dx) :: (dx, RD w n e t) :: (W, listOf #[.ref I, .int k tk] c1) :: (I, listOf ys.toArray c2) :: rest)) (fl : FLt p n e) (hI : IntsAre ys ns) (hy : ys.length ≤ 100) (hk0 : 0 ≤ k) (hk1 : k ≤ 65536) (hl : @LT.lt Nat _ W dx ∧ @LT.lt Nat _ I dx ∧ AllLt dx rest) (l2 : @LT.lt Nat _ dx x) : Q (.ref x) { s with heap := h', toks := tk' } :=
  hret n e x dx t ys ns k tk c1 c2 h' tk' fl hI hy hk0 hk1 F N (ktn_ltOf hl.2.2) hl.1 hl.2.1 l2
theorem law_real_spec (W I : Addr) (rest : List (Addr × Obj)) (p : Int) (u : Tok) : Cx w mean mg mb 280 30 (fun news => WellAt W I rest news ∧ 2 ≤ p ∧ p ≤ 9) [.ref W, .int p u] (RetLawReal w W I p rest) := by
  unfold Cx
  k_fill
  intro dp un gd cn cs a ccd cl outer A₀ base h₀ L m news s Q E B F X N T hk hpre hd hu hret
  obtain ⟨⟨ys, ns, k, t, c1, c2, hw1, hw2, hI, hly, hk1, hk2, hr1, hr2, hr3, hWI⟩, hp1, hp2⟩ := hpre
  replace N := news_sub (news' := (W, listOf #[.ref I, .int k t] c1) :: (I, listOf ys.toArray c2) :: rest) N (by
    intro p hp
    rcases List.mem_cons.mp hp with rfl | hp
    · exact hw1
    · rcases List.mem_cons.mp hp with rfl | hp
      · exact hw2
      · exact hr1 p hp)
  clear hw1 hw2 hr1
  refine wpAny_call ?_
  k_dflt ktr_enter
  k_steps
  (refine' lawreal_end hret ?F ?N ?fl ?hI ?hy ?k0 ?k1 ?hl ?l2; (case F => k_asm); (case N => k_asm); (case fl => exact draw_fl (by assumption) (by assumption) (by assumption) (by assumption) (by assumption) (by assumption)); (case hI => assumption); (case hy => assumption); (case k0 => assumption); (case k1 => assumption); (case hl => assumption); (case l2 => assumption))

local macro_rules | `(tactic| ktr_unf) => `(tactic| with_reducible refine' law_real_spec _ _ _ _ _)
end
section
def PairAt (w : World) (Ok : Int → Int → Int → Int → Prop) (news : List (Addr × Obj)) (v : Value) : Prop :=
  ∃ (t a da b db : Addr) (nt : Nat) (m1 e1 m2 e2 : Int) (ta tb : TK), v = .ref t ∧ (t, ({ cls := .type "tuple", data := .seq #[.ref a, .ref b] nt } : Obj)) ∈ news ∧ (a, instObj 108 da) ∈ news ∧ (da, RD w m1 e1 ta) ∈ news ∧
    (b, instObj 108 db) ∈ news ∧ (db, RD w m2 e2 tb) ∈ news ∧ Ok m1 e1 m2 e2
theorem pair_at {w : World} {Ok : Int → Int → Int → Int → Prop} {nw : List (Addr × Obj)} {t a da b db : Addr} {nt : Nat} {m1 e1 m2 e2 : Int} {ta tb : TK} (h0 : (t, ({ cls := .type "tuple", data := .seq #[.ref a, .ref b] nt } : Obj)) ∈ nw) (h1 : (a, instObj 108 da) ∈ nw) (h2 : (da, RD w m1 e1 ta) ∈ nw)
    (h3 : (b, instObj 108 db) ∈ nw) (h4 : (db, RD w m2 e2 tb) ∈ nw) (ok : Ok m1 e1 m2 e2) : PairAt w Ok nw (.ref t) :=
  ⟨t, a, da, b, db, nt, m1, e1, m2, e2, ta, tb, rfl, h0, h1, h2, h3, h4, ok⟩
theorem PairAt.elim {w : World} {Ok : Int → Int → Int → Int → Prop} {nw : List (Addr × Obj)} {R : Value → Prop} (f : ∀ (t a da b db : Addr) (nt : Nat) (m1 e1 m2 e2 : Int) (ta tb : TK), (t, ({ cls := .type "tuple", data := .seq #[.ref a, .ref b] nt } : Obj)) ∈ nw → (a, instObj 108 da) ∈ nw → (da, RD w m1 e1 ta) ∈ nw →
    (b, instObj 108 db) ∈ nw → (db, RD w m2 e2 tb) ∈ nw → Ok m1 e1 m2 e2 → R (.ref t)) {v : Value} (P : PairAt w Ok nw v) : R v := by
  obtain ⟨t, a, da, b, db, nt, m1, e1, m2, e2, ta, tb, rfl, h0, h1, h2, h3, h4, ok⟩ := P
  exact f t a da b db nt m1 e1 m2 e2 ta tb h0 h1 h2 h3 h4 ok
theorem sub_nil {nw : List (Addr × Obj)} : ∀ p ∈ ([] : List (Addr × Obj)), p ∈ nw := fun _ h => nomatch h
theorem sub_cons {a : Addr × Obj} {l nw : List (Addr × Obj)} (h : a ∈ nw) (t : ∀ p ∈ l, p ∈ nw) : ∀ p ∈ a :: l, p ∈ nw := fun p hp => (List.mem_cons.mp hp).elim (fun e => e ▸ h) (t p)
def TurnEnd (h₀ : Heap) (L : Addr) (m : Str → Option Value) (nw : List (Addr × Obj)) (s : Shared) (ok : Bool) (s₃ : Shared) : Prop := ok = false ∧ ∃ h' tk', s₃ = { s with heap := h', toks := tk' } ∧ Fr h₀ L h' m ∧ News h₀ L h' nw
open LCg in
theorem comp_none {prog : Program} {w : World} {A : Around} {E : Value → Shared → Prop} {s : Shared} {h₀ : Heap} {L : Addr} {m : Str → Option Value} {cn : Str} {cs : Scope} {fa : Addr} {ccd : Value} {cls : List (Str × Addr)} {elt ct : PySem.Expr} {x x₂ y : Str} {px px₂ tp py : Pos} {tk0 : Nat} {scope : Scope}
    {cl : List (Str × Addr)} {pos : Pos} {Q : Value → Shared → Prop} {ax : Addr} {its : List Value} {k : Nat} {news X : List (Addr × Obj)} {Ok : Int → Int → Int → Int → Prop}
    (F : Fr h₀ L s.heap m) (N : News h₀ L s.heap news) (hh : A.handled = none) (hy : m y = some (.ref ax)) (hm : (ax, listOf its.toArray k) ∈ news) (hsz : its.length ≤ 100) (hall : ∀ v ∈ its, PairAt w Ok X v) (hX : ∀ p ∈ X, p ∈ news)
    (turn : ∀ (a da b db : Addr) (m1 e1 m2 e2 : Int) (ta tb : TK) (I : Addr) (oI : Obj) (C : Addr) (oC : Obj) (D : Addr) (m₂ : Str → Option Value) (h : Heap) (tk : Nat) (E' : Value → Shared → Prop), Ok m1 e1 m2 e2 → (a, instObj 108 da) ∈ X → (da, RD w m1 e1 ta) ∈ X →
      (b, instObj 108 db) ∈ X → (db, RD w m2 e2 tb) ∈ X → NsObj oC m₂ → m₂ x = some (.ref a) → m₂ x₂ = some (.ref b) → Fr h₀ L h m → News h₀ L h ((I, oI) :: (C, oC) :: (D, lst []) :: news) →
      wpAny (model prog w) A (isTrue ct (compEnvC scope cl C (envX cn cs L fa ccd cls)) (eval ct (compEnvC scope cl C (envX cn cs L fa ccd cls)))) (TurnEnd h₀ L m ((I, oI) :: (C, oC) :: (D, lst []) :: news) s) E' { s with heap := h, toks := tk })
    (fin : ∀ (D : Addr) (h' : Heap) (tk' : Nat), Fr h₀ L h' m → News h₀ L h' ((D, listOf ([] : List Value).toArray 0) :: news) → Q (.ref D) { s with heap := h', toks := tk' })
    (hclos : closureFor scope (envX cn cs L fa ccd cls) = pure cl) (hcell : ∀ z ∈ scope.names, z.2 ≠ .cell) (hkind : scope.kind = .function)
    (hnames : ∀ z ∈ scope.names, z.2 = .local → scope.names.lookup z.1 = some .local) (hx : scope.names.lookup x = some .local) (hx₂ : scope.names.lookup x₂ = some .local) (hxx : x ≠ x₂)
    (hcs : cs.kind = .function) (hky : (envX cn cs L fa ccd cls).kindOf y = some .local) (hdb : (y == ("__debug__" : Str)) = false)
    (hs : ∀ z, foldedSetIterable (.Name y py) (envX cn cs L fa ccd cls) z = pure z) :
    wpAny (model prog w) A (eval (.ListComp elt [⟨.Tuple [.Name x px, .Name x₂ px₂] tk0 tp, .Name y py, [ct], 0⟩] scope pos) (envX cn cs L fa ccd cls)) Q E s := by
  rw [eval_ListComp]
  refine wpAny_comprehension_free (use := none) rfl hs hclos hkind hnames (nameX_L F hy ?_ hcs hky hdb)
  have hl : s.heap.IsList ax its.toArray := ⟨_, (N _ hm).1, rfl, _, rfl⟩
  have hlt : ax < s.heap.objs.size := Heap.lt_size (N _ hm).1
  refine wpAny_pyIter_list hl ?_
  generalize hH1 : s.heap.push { cls := .type "list_iterator", data := .fields #[.ref ax, .int 0 0] } = H1
  have hI1 : H1.objs.size = s.heap.objs.size + 1 := by rw [← hH1, Heap.size_push]
  have up : ∀ b o, s.heap.get? b = some o → H1.get? b = some o := fun b o e => hH1 ▸ Heap.get?_push_of_some _ e
  have hitI : H1.IsListIter s.heap.objs.size ax 0 := ⟨_, by rw [← hH1]; exact Heap.get?_push_size _ rfl, rfl, rfl⟩
  refine wpAny_newObj_type (wpAny_newFunctionEnv hcell (by intro y hy; simp at hy) (fun h₁ hns₁ hsb₁ => ?_) hkind)
  dsimp only at hns₁ hsb₁ ⊢
  generalize hH2 : H1.push { cls := .type "list", dict := none, data := .seq ([] : List Value).toArray } = H2 at hns₁ hsb₁ ⊢
  have hC2 : H2.objs.size = H1.objs.size + 1 := by rw [← hH2, Heap.size_push]
  have up2 : ∀ b o, H1.get? b = some o → H2.get? b = some o := fun b o e => hH2 ▸ Heap.get?_push_of_some _ e
  have below : ∀ b, b < H1.objs.size → b ≠ H2.objs.size ∧ b ≠ H1.objs.size := fun b hb => ⟨by rw [hC2]; exact Nat.ne_of_lt (Nat.lt_succ_of_lt hb), Nat.ne_of_lt hb⟩
  have old : ∀ b o, H1.get? b = some o → h₁.get? b = some o := fun b o e => hsb₁.extBut b o (below b (Heap.lt_size e)).1 (Heap.get?_push_of_some _ (up2 b o e))
  have hDC : H1.objs.size ≠ H2.objs.size := by rw [hC2]; exact Nat.ne_of_lt (Nat.lt_succ_self _)
  have hacc : h₁.get? H1.objs.size = some (lst []) := hsb₁.extBut _ _ hDC (Heap.get?_push_of_some _ (hH2 ▸ Heap.get?_push_size _ rfl))
  have fresh : ∀ a, s.heap.objs.size ≤ a → h₀.get? a = none := fun a ha => by
    cases e : h₀.get? a with
    | none => rfl
    | some o' => exact absurd (Heap.lt_size (F.keep a o' e)) (Nat.not_lt.mpr ha)
  have hI₀ : h₀.get? s.heap.objs.size = none := fresh _ (Nat.le_refl _)
  have hD₀ : h₀.get? H1.objs.size = none := fresh _ (by omega)
  have hC₀ : h₀.get? H2.objs.size = none := fresh _ (by omega)
  have hLlt : L < s.heap.objs.size := F.ns.lt
  have hLI : s.heap.objs.size ≠ L := Ne.symm (Nat.ne_of_lt hLlt)
  have hLlt' : @LT.lt Nat _ L H1.objs.size := by have : @LT.lt Nat _ L s.heap.objs.size := hLlt; omega
  have hDL : H1.objs.size ≠ L := Ne.symm (below L hLlt').2
  have hCL : H2.objs.size ≠ L := Ne.symm (below L hLlt').1
  have hIlt : s.heap.objs.size < H1.objs.size := by omega
  have hIC : s.heap.objs.size ≠ H2.objs.size := (below _ hIlt).1
  have hID : s.heap.objs.size ≠ H1.objs.size := (below _ hIlt).2
  have offn : ∀ p ∈ news, p.1 ≠ s.heap.objs.size ∧ p.1 ≠ H2.objs.size ∧ p.1 ≠ H1.objs.size := fun p hp => by
    have h1 : @LT.lt Nat _ p.1 s.heap.objs.size := Heap.lt_size (N p hp).1
    have h2 : @LT.lt Nat _ p.1 H1.objs.size := by omega
    exact ⟨Nat.ne_of_lt h1, (below _ h2).1, (below _ h2).2⟩
  have W := Walks.list (prog := prog) (w := w) hh s.heap.objs.size ax (Nat.ne_of_lt hlt) its.toArray
  have loop : codeAny (model prog w) A (.compLoop (.ListComp elt [⟨.Tuple [.Name x px, .Name x₂ px₂] tk0 tp, .Name y py, [ct], 0⟩] scope pos) 0 (.ref s.heap.objs.size) (.ref H1.objs.size) (compEnvC scope cl H2.objs.size (envX cn cs L fa ccd cls)))
      (fun r s' => ∃ h' tk m', r = .ok .next ∧ s' = { s with heap := h', toks := tk } ∧ Fr h₀ L h' m ∧ News h₀ L h' ((H1.objs.size, lst []) :: news) ∧ h'.Ns H2.objs.size m') { s with heap := h₁, toks := s.toks + ([] : List (Str × Value)).length } := by
    refine kct_loop (fun n s' => ∃ h' tk i m', s' = { s with heap := h', toks := tk } ∧ i ≤ its.length ∧ n = its.length + 1 - i ∧ (h'.IsListIter s.heap.objs.size ax i ∧ h'.IsList ax its.toArray) ∧ Fr h₀ L h' m ∧ h'.Ns H2.objs.size m' ∧ News h₀ L h' ((H1.objs.size, lst []) :: news)) ?_ (its.length + 1)
      ⟨h₁, _, 0, _, rfl, Nat.zero_le _, rfl, ⟨hitI.at fun o e => old _ o e, ⟨_, old _ _ (up _ _ (N _ hm).1), rfl, _, rfl⟩⟩, F.keeps fun b o e => old b o (up b o e), hns₁, fun p hp => ?_⟩
    · rintro n s' ⟨h', tk, i, m', rfl, hi, rfl, hst, F', hn', N'⟩
      by_cases hlt' : i < its.length
      · refine W.item i _ _ _ (by simpa using hlt') hst fun v h₂ tk₂ hPv hst₂ hk₂ => ?_
        have hv : v ∈ its := by
          have hPv' : its.toArray[i]? = some v := hPv
          rw [List.getElem?_toArray] at hPv'
          exact List.mem_of_getElem? hPv'
        obtain ⟨t, a, da, b, db, nt, m1, e1, m2, e2, ta, tb, rfl, hmt, ha, hda, hb, hdb', hok⟩ := hall v hv
        have N₂ : News h₀ L h₂ ((H1.objs.size, lst []) :: news) := news_but N' hk₂ fun p hp => by
          rcases List.mem_cons.mp hp with rfl | hp
          · exact Ne.symm hID
          · exact (offn p hp).1
        have ht : IsTup h₂ t #[.ref a, .ref b] := ⟨_, (N₂ _ (List.mem_cons_of_mem _ (hX _ hmt))).1, rfl, nt, rfl⟩
        refine wpAny_letOwnedTupleGo_listiter hst₂.1 ?_
        refine assign_Tuple_tuple hh ht rfl rfl fun h₅ he => ?_
        have he' : ∀ b o, h₂.get? b = some o → h₅.get? b = some o := fun b o e => he b o (Nat.ne_of_lt (Heap.lt_size e)) e
        refine assignInOrder_cons (wpAny_assign_Name (wpAny_storeName_local (lookup_relabel_local hx) ((hn'.at' fun o e => hk₂ _ o (by simpa using Ne.symm hIC) e).at' fun o e => he' _ o e) (fun h₆ hn₆ hs₆ => ?_) (by simp [compEnvC, relabel, hkind])))
        refine assignInOrder_cons (wpAny_assign_Name (wpAny_storeName_local (lookup_relabel_local hx₂) hn₆ (fun h₃ hn₃ hs₃ => ?_) (by simp [compEnvC, relabel, hkind])))
        refine assignInOrder_nil ?_
        have old3 : ∀ b o, b ≠ H2.objs.size → h₂.get? b = some o → h₃.get? b = some o := fun b o hb e => hs₃.extBut b o hb (hs₆.extBut b o hb (he' b o e))
        have hst₃ : h₃.IsListIter s.heap.objs.size ax (i + 1) := hst₂.1.at fun o e => old3 _ o hIC e
        obtain ⟨oI, heI, hoI1, hoI2⟩ := hst₃
        obtain ⟨oC, heC, hoC⟩ := ns_obj hn₃
        have F₃ : Fr h₀ L h₃ m := (((fr_but F' hk₂ (Ne.symm hLI) hI₀).keeps he').change hs₆ hCL hC₀).change hs₃ hCL hC₀
        have N₃ : News h₀ L h₃ ((s.heap.objs.size, oI) :: (H2.objs.size, oC) :: (H1.objs.size, lst []) :: news) := fun p hp => by
          rcases List.mem_cons.mp hp with rfl | hp
          · exact ⟨heI, hLI, hI₀⟩
          · rcases List.mem_cons.mp hp with rfl | hp
            · exact ⟨heC, hCL, hC₀⟩
            · have z := N₂ p hp
              refine ⟨old3 _ _ ?_ z.1, z.2⟩
              rcases List.mem_cons.mp hp with rfl | hp
              · exact hDC
              · exact (offn p hp).2.1
        refine wpAny_mono (turn a da b db m1 e1 m2 e2 ta tb _ oI _ oC _ _ h₃ _ _ hok ha hda hb hdb' hoC (by simp [hxx]) (by simp) F₃ N₃) (fun ok s₄ h₄ => ?_) fun _ _ e => e
        obtain ⟨rfl, h₄, tk₄, rfl, F₄, N₄⟩ := h₄
        simp only [Bool.false_eq_true, if_false]
        have zI := (N₄ (s.heap.objs.size, oI) List.mem_cons_self).1
        have zC := (N₄ (H2.objs.size, oC) (List.mem_cons_of_mem _ List.mem_cons_self)).1
        have N₄' : News h₀ L h₄ ((H1.objs.size, lst []) :: news) := fun p hp => N₄ p (List.mem_cons_of_mem _ (List.mem_cons_of_mem _ hp))
        exact ⟨its.length + 1 - (i + 1), by omega, h₄, tk₄, i + 1, _, rfl, hlt', rfl, ⟨⟨oI, zI, hoI1, hoI2⟩, ⟨_, (N₄' _ (List.mem_cons_of_mem _ hm)).1, rfl, _, rfl⟩⟩, F₄, hoC.ns zC, N₄'⟩
      · have hin : i = its.length := by omega
        subst hin
        refine W.done _ _ _ (by simpa using hst) fun h₂ tk₂ hk₂ => ?_
        exact ⟨h₂, tk₂, _, rfl, rfl, fr_but F' hk₂ (Ne.symm hLI) hI₀, news_but N' hk₂ fun p hp => by
          rcases List.mem_cons.mp hp with rfl | hp
          · exact Ne.symm hID
          · exact (offn p hp).1, hn'.at' fun o e => hk₂ _ o (by simpa using Ne.symm hIC) e⟩
    · rcases List.mem_cons.mp hp with rfl | hp
      · exact ⟨hacc, hDL, hD₀⟩
      · exact ⟨old _ _ (up _ _ (N p hp).1), (N p hp).2⟩
  refine codeAny_mono (codeAny_compStart_list loop (W.self 0 _ _ _ ⟨hitI.at fun o e => old _ o e, ⟨_, old _ _ (up _ _ (N _ hm).1), rfl, _, rfl⟩⟩ loop)) ?_
  rintro r s' ⟨h', tk, m', rfl, rfl, F', N', hn'⟩
  refine ⟨m', hn', fun h'' hs'' => fin H1.objs.size h'' tk (F'.change hs'' hCL hC₀) fun p hp => ?_⟩
  refine ⟨hs''.extBut _ _ ?_ (N' p hp).1, (N' p hp).2⟩
  rcases List.mem_cons.mp hp with rfl | hp
  · exact hDC
  · exact (offn p hp).2.1
open LCg in
theorem comp_pairs {prog : Program} {w : World} {A : Around} {E : Value → Shared → Prop} {s : Shared} {h₀ : Heap} {L : Addr} {m : Str → Option Value} {cn : Str} {cs : Scope} {fa : Addr} {ccd : Value} {cls : List (Str × Addr)} {elt ct : PySem.Expr} {x x₂ y : Str} {px px₂ tp py : Pos} {tk0 : Nat} {scope : Scope}
    {cl : List (Str × Addr)} {pos : Pos} {Q : Value → Shared → Prop} {ax : Addr} {its : List Value} {k : Nat} {X : List (Addr × Obj)} {Ok : Int → Int → Int → Int → Prop}
    (F : Fr h₀ L s.heap m) (N : News h₀ L s.heap ((ax, listOf its.toArray k) :: X)) (hh : A.handled = none) (hy : m y = some (.ref ax)) (hsz : its.length ≤ 100) (hall : ∀ v ∈ its, PairAt w Ok X v)
    (turn : ∀ (a da b db : Addr) (m1 e1 m2 e2 : Int) (ta tb : TK) (I : Addr) (oI : Obj) (C : Addr) (oC : Obj) (D : Addr) (m₂ : Str → Option Value) (h : Heap) (tk : Nat) (E' : Value → Shared → Prop), Ok m1 e1 m2 e2 → (a, instObj 108 da) ∈ X → (da, RD w m1 e1 ta) ∈ X →
      (b, instObj 108 db) ∈ X → (db, RD w m2 e2 tb) ∈ X → NsObj oC m₂ → m₂ x = some (.ref a) → m₂ x₂ = some (.ref b) → Fr h₀ L h m → News h₀ L h ((I, oI) :: (C, oC) :: (D, lst []) :: (ax, listOf its.toArray k) :: X) →
      wpAny (model prog w) A (isTrue ct (compEnvC scope cl C (envX cn cs L fa ccd cls)) (eval ct (compEnvC scope cl C (envX cn cs L fa ccd cls)))) (TurnEnd h₀ L m ((I, oI) :: (C, oC) :: (D, lst []) :: (ax, listOf its.toArray k) :: X) s) E' { s with heap := h, toks := tk })
    (fin : ∀ (D : Addr) (h' : Heap) (tk' : Nat), Fr h₀ L h' m → News h₀ L h' ((D, listOf ([] : List Value).toArray 0) :: (ax, listOf its.toArray k) :: X) → Q (.ref D) { s with heap := h', toks := tk' })
    (hclos : closureFor scope (envX cn cs L fa ccd cls) = pure cl) (hcell : ∀ z ∈ scope.names, z.2 ≠ .cell) (hkind : scope.kind = .function)
    (hnames : ∀ z ∈ scope.names, z.2 = .local → scope.names.lookup z.1 = some .local) (hx : scope.names.lookup x = some .local) (hx₂ : scope.names.lookup x₂ = some .local) (hxx : x ≠ x₂)
    (hcs : cs.kind = .function) (hky : (envX cn cs L fa ccd cls).kindOf y = some .local) (hdb : (y == ("__debug__" : Str)) = false)
    (hs : ∀ z, foldedSetIterable (.Name y py) (envX cn cs L fa ccd cls) z = pure z) :
    wpAny (model prog w) A (eval (.ListComp elt [⟨.Tuple [.Name x px, .Name x₂ px₂] tk0 tp, .Name y py, [ct], 0⟩] scope pos) (envX cn cs L fa ccd cls)) Q E s :=
  comp_none (news := (ax, listOf its.toArray k) :: X) F N hh hy (.head _) hsz hall (fun _ h => .tail _ h) turn fin hclos hcell hkind hnames hx hx₂ hxx hcs hky hdb hs
theorem turn_end {h₀ h' : Heap} {L : Addr} {m : Str → Option Value} {nw : List (Addr × Obj)} {s : Shared} {ok : Bool} {tk' : Nat} (e : ok = false) (F : Fr h₀ L h' m) (N : News h₀ L h' nw) : TurnEnd h₀ L m nw s ok { s with heap := h', toks := tk' } := ⟨e, h', tk', rfl, F, N⟩

theorem cut_stmt {M : Model} {A : Around} {E : Value → Shared → Prop} {s : Shared} {env : Env} {st : Stmt} {rest : List Stmt} (Mid : Shared → Prop) {Q : Flow → Shared → Prop}
    (h1 : ∀ Q' : Flow → Shared → Prop, (∀ s', Mid s' → Q' .next s') → wpAny M A (exec st env) Q' E s) (h2 : ∀ s', Mid s' → wpAny M A (execs rest env) Q E s') : wpAny M A (execs (st :: rest) env) Q E s :=
  wpAny_execs_cons (wpAny_mono (h1 (fun f s' => f = .next ∧ Mid s') fun _ h => ⟨rfl, h⟩) (fun f s' h => by obtain ⟨rfl, hm⟩ := h; exact h2 s' hm) fun _ _ e => e)
theorem PairAt.mono {w : World} {Ok : Int → Int → Int → Int → Prop} {X Y : List (Addr × Obj)} (h : ∀ p ∈ X, p ∈ Y) {v : Value} (P : PairAt w Ok X v) : PairAt w Ok Y v :=
  P.elim fun _ _ _ _ _ _ _ _ _ _ _ _ h0 h1 h2 h3 h4 ok => pair_at (h _ h0) (h _ h1) (h _ h2) (h _ h3) (h _ h4) ok
theorem off_list {h₀ h : Heap} {L pl : Addr} {nw : List (Addr × Obj)} {a : Array Value} {k : Nat} (N : News h₀ L h nw) (hp : (pl, listOf a k) ∈ nw) {q : Addr} {o : Obj} (hq : (q, o) ∈ nw) (hc : o.cls ≠ .type "list") : (q, o) ∈ nw.filter fun p => decide (p.1 ≠ pl) := by
  refine List.mem_filter.mpr ⟨hq, ?_⟩
  rw [decide_eq_true_eq]
  intro e
  have e' : q = pl := e
  subst e'
  have := (N _ hq).1.symm.trans (N _ hp).1
  have e2 : o = listOf a k := Option.some.inj this
  exact hc (by rw [e2])
theorem PairAt.but {w : World} {Ok : Int → Int → Int → Int → Prop} {h₀ h : Heap} {L pl : Addr} {nw : List (Addr × Obj)} {a : Array Value} {k : Nat} (N : News h₀ L h nw) (hp : (pl, listOf a k) ∈ nw) {v : Value} (P : PairAt w Ok nw v) : PairAt w Ok (nw.filter fun p => decide (p.1 ≠ pl)) v :=
  P.elim fun _ _ _ _ _ _ _ _ _ _ _ _ h0 h1 h2 h3 h4 ok => pair_at (off_list N hp h0 (by simp)) (off_list N hp h1 (by simp)) (off_list N hp h2 (by simp)) (off_list N hp h3 (by simp)) (off_list N hp h4 (by simp)) ok
/-- between the statements: the name "pairs" holds a list of good pairs -/
def PMid (w : World) (Ok : Int → Int → Int → Int → Prop) (h₀ : Heap) (L : Addr) (M0 : (Str → Option Value) → Prop) (news K0 : List (Addr × Obj)) (n : Nat) (s s' : Shared) : Prop :=
  ∃ (pl : Addr) (its : List Value) (k : Nat) (X : List (Addr × Obj)) (m : Str → Option Value) (h' : Heap) (tk' : Nat), s' = { s with heap := h', toks := tk' } ∧ M0 m ∧ m (Str.ofString "pairs") = some (.ref pl) ∧ Fr h₀ L h' m ∧
    News h₀ L h' ((pl, listOf its.toArray k) :: X) ∧ (∀ p ∈ X, p.1 ≠ pl) ∧ (∀ v ∈ its, PairAt w Ok X v) ∧ its.length ≤ n ∧ (∀ p ∈ K0, p ∈ X) ∧ (∀ p ∈ news, p ∈ X)
theorem pmid_elim {w : World} {Ok : Int → Int → Int → Int → Prop} {h₀ : Heap} {L : Addr} {M0 : (Str → Option Value) → Prop} {news K0 : List (Addr × Obj)} {n : Nat} {s : Shared} {R : Shared → Prop}
    (f : ∀ (pl : Addr) (its : List Value) (k : Nat) (X : List (Addr × Obj)) (m : Str → Option Value) (h' : Heap) (tk' : Nat), M0 m → m (Str.ofString "pairs") = some (.ref pl) → Fr h₀ L h' m → News h₀ L h' ((pl, listOf its.toArray k) :: X) → (∀ p ∈ X, p.1 ≠ pl) → (∀ v ∈ its, PairAt w Ok X v) → its.length ≤ n → (∀ p ∈ K0, p ∈ X) → (∀ p ∈ news, p ∈ X) → R { s with heap := h', toks := tk' }) :
    ∀ s', PMid w Ok h₀ L M0 news K0 n s s' → R s' := by
  rintro _ ⟨pl, its, k, X, m, h', tk', rfl, hM, hm, F, N, hne, hall, hn, hK, hs⟩
  exact f pl its k X m h' tk' hM hm F N hne hall hn hK hs
theorem pmid_new {Q : Flow → Shared → Prop} {w : World} {Ok : Int → Int → Int → Int → Prop} {h₀ h' : Heap} {L pl : Addr} {M0 : (Str → Option Value) → Prop} {news K0 X nw : List (Addr × Obj)} {n k : Nat} {s : Shared} {its : List Value} {m : Str → Option Value} {tk' : Nat}
    (hQ : ∀ s', PMid w Ok h₀ L M0 news K0 n s s' → Q .next s') (F : Fr h₀ L h' m) (N : News h₀ L h' nw) (hM : M0 m) (hm : m (Str.ofString "pairs") = some (.ref pl)) (hp : (pl, listOf its.toArray k) ∈ nw) (hX : ∀ p ∈ X, p ∈ nw) (hK : ∀ p ∈ K0, p ∈ X) (hc : ∀ p ∈ K0, ∀ a k, p.2 ≠ listOf a k) (hall : ∀ v ∈ its, PairAt w Ok nw v) (hn : its.length ≤ n) (hs : ∀ p ∈ news, p ∈ X) (hq : ∀ p ∈ news, p.1 ≠ pl) :
    Q .next { s with heap := h', toks := tk' } := by
  refine hQ _ ⟨pl, its, k, nw.filter fun p => decide (p.1 ≠ pl), m, h', tk', rfl, hM, hm, F, fun p hp' => ?_, fun p hp' => ?_, fun v hv => (hall v hv).but N hp, hn, fun p hp' => ?_, fun p hp' => List.mem_filter.mpr ⟨hX p (hs p hp'), by simpa using hq p hp'⟩⟩
  · rcases List.mem_cons.mp hp' with rfl | hp'
    · exact N _ hp
    · exact N _ (List.mem_filter.mp hp').1
  · simpa using (List.mem_filter.mp hp').2
  · refine List.mem_filter.mpr ⟨hX p (hK p hp'), ?_⟩
    rw [decide_eq_true_eq]
    intro e
    have h1 := (N _ (hX p (hK p hp'))).1
    rw [e, (N _ hp).1] at h1
    exact hc p hp' _ _ (Option.some.inj h1).symm
theorem pmid_app {Q : Flow → Shared → Prop} {w : World} {Ok : Int → Int → Int → Int → Prop} {h₀ h' : Heap} {L pl : Addr} {M0 : (Str → Option Value) → Prop} {news K0 nw X : List (Addr × Obj)} {n n' k : Nat} {s : Shared} {its : List Value} {v : Value} {m : Str → Option Value} {tk' : Nat}
    (hQ : ∀ s', PMid w Ok h₀ L M0 news K0 n' s s' → Q .next s') (F : Fr h₀ L h' m) (N : News h₀ L h' nw) (hM : M0 m) (hm : m (Str.ofString "pairs") = some (.ref pl)) (hp : (pl, listOf (its.toArray.push v) k) ∈ nw) (hX : ∀ p ∈ X, p ∈ nw) (hK : ∀ p ∈ K0, p ∈ X) (hc : ∀ p ∈ K0, ∀ a k, p.2 ≠ listOf a k) (hall : ∀ v ∈ its, PairAt w Ok X v) (hv : PairAt w Ok nw v) (hn : its.length ≤ n) (hnn : n + 1 ≤ n') (hs : ∀ p ∈ news, p ∈ X) (hne : ∀ p ∈ X, p.1 ≠ pl) :
    Q .next { s with heap := h', toks := tk' } := by
  refine pmid_new (its := its ++ [v]) (k := k) hQ F N hM hm ?_ hX hK hc ?_ (by rw [List.length_append]; simp; omega) hs (fun p hp => hne p (hs p hp))
  · rw [List.push_toArray] at hp; exact hp
  · intro u hu
    rcases List.mem_append.mp hu with hu | hu
    · exact (hall u hu).mono hX
    · rw [List.mem_singleton.mp hu]; exact hv
theorem cat_made {prog : Program} {w : World} {A : Around} {E : Value → Shared → Prop} {s : Shared} {h₀ : Heap} {L a b : Addr} {m : Str → Option Value} {news : List (Addr × Obj)} {xs ys : List Value} {c c' : Nat} {Q : Value → Shared → Prop} (F : Fr h₀ L s.heap m) (N : News h₀ L s.heap news)
    (ha : (a, listOf xs.toArray c) ∈ news) (hb : (b, listOf ys.toArray c') ∈ news) (hz : xs.length + ys.length ≤ 100)
    (h : ∀ l' h', Fr h₀ L h' m → News h₀ L h' ((l', listOf (xs ++ ys).toArray 0) :: news) → (∀ p ∈ news, p.1 < l') → Q (.ref l') { s with heap := h' }) : wpAny (model prog w) A (binaryOp .Add (.ref a) (.ref b)) Q E s :=
  add_arrays (its := xs.toArray) (its2 := ys.toArray) F N ⟨_, (N _ ha).1, rfl, _, rfl⟩ ⟨_, (N _ hb).1, rfl, _, rfl⟩ (fun h' F' N' => h _ h' F' N' fun p hp => Heap.lt_size (N p hp).1) (by rw [sizeLine_eq]; simp only [List.size_toArray]; omega)
local macro_rules | `(tactic| walk_at "binaryOp Add ref ref") => `(tactic| (k_here; (with_reducible show wpAny _ _ (binaryOp _ (Value.ref _) (Value.ref _)) _ _ _); k_dflt (refine' cat_made (ys := [_, _]) ?F ?N ?a ?b ?z ?_; (case F => k_asm); (case N => k_asm); (case a => k_mem); (case b => k_mem); (case z => (simp only [List.length_cons, List.length_nil]; omega))); intro l9' h9 F9 N9 l99))
local macro_rules | `(tactic| tb_rel) => `(tactic| first | assumption | exact (And.right (by assumption)) | exact (And.right (And.right (by assumption))) | exact (And.right (And.right (And.right (by assumption)))) | exact (And.right (And.right (And.right (And.right (by assumption))))) | exact (And.right (And.right (And.right (And.right (And.right (by assumption)))))) | exact (And.right (And.right (And.right (And.right (And.right (And.right (by assumption))))))) | exact (And.right (And.right (And.right (And.right (And.right (And.right (And.right (by assumption)))))))) | exact (And.right (And.right (And.right (And.right (And.right (And.right (And.right (And.right (by assumption))))))))) | exact (And.right (And.right (And.right (And.right (And.right (And.right (And.right (And.right (And.right (by assumption)))))))))) | exact (And.right (And.right (And.right (And.right (And.right (And.right (And.right (And.right (And.right (And.right (by assumption))))))))))) | exact (And.right (And.right (And.right (And.right (And.right (And.right (And.right (And.right (And.right (And.right (And.right (by assumption)))))))))))) | exact (And.right (And.right (And.right (And.right (And.right (And.right (And.right (And.right (And.right (And.right (And.right (And.right (by assumption))))))))))))) | exact (And.right (And.right (And.right (And.right (And.right (And.right (And.right (And.right (And.right (And.right (And.right (And.right (And.right (by assumption)))))))))))))) | exact (And.right (And.right (And.right (And.right (And.right (And.right (And.right (And.right (And.right (And.right (And.right (And.right (And.right (And.right (by assumption))))))))))))))) | exact (And.right (And.right (And.right (And.right (And.right (And.right (And.right (And.right (And.right (And.right (And.right (And.right (And.right (And.right (And.right (by assumption)))))))))))))))))
theorem allLt_ne {d : Addr} {l : List (Addr × Obj)} (h : AllLt d l) : ∀ p ∈ l, p.1 ≠ d := fun p hp => Nat.ne_of_lt (ktn_ltOf h p hp)
local macro_rules | `(tactic| k_all) => `(tactic| assumption)
local macro_rules | `(tactic| k_mem) => `(tactic| first | exact List.Mem.head _ | assumption | (refine' List.Mem.tail _ ?_; k_mem))
local macro_rules | `(tactic| tb_start) => `(tactic| exact pair_at (by k_mem) (by k_mem) (by k_mem) (by k_mem) (by k_mem) (by assumption))

section
variable {w : World} {p m1 e1 m2 e2 : Int} {u : Tok} {x1 dx1 x2 dx2 D1 E1 D2 E2 : Addr} {ta1 ta2 u1 v1 : TK} {m : Str → Option Value} {X : List (Addr × Obj)}
/-- the frame's names -/
def EvN (p : Int) (u : Tok) (x1 x2 : Addr) (m : Str → Option Value) : Prop := m (Str.ofString "bits") = some (.int p u) ∧ m (Str.ofString "x") = some (.ref x1) ∧ m (Str.ofString "y") = some (.ref x2)
theorem EvN.mk (h1 : m (Str.ofString "bits") = some (.int p u)) (h2 : m (Str.ofString "x") = some (.ref x1)) (h3 : m (Str.ofString "y") = some (.ref x2)) : EvN p u x1 x2 m := ⟨h1, h2, h3⟩
theorem EvN.b (h : EvN p u x1 x2 m) : m (Str.ofString "bits") = some (.int p u) := h.1
theorem EvN.x (h : EvN p u x1 x2 m) : m (Str.ofString "x") = some (.ref x1) := h.2.1
theorem EvN.y (h : EvN p u x1 x2 m) : m (Str.ofString "y") = some (.ref x2) := h.2.2
def EvN5 (p : Int) (u : Tok) (x1 x2 D1 D2 : Addr) (m : Str → Option Value) : Prop := EvN p u x1 x2 m ∧ m (Str.ofString "double") = some (.ref D1) ∧ m (Str.ofString "half") = some (.ref D2)
theorem EvN5.mk (h1 : m (Str.ofString "bits") = some (.int p u)) (h2 : m (Str.ofString "x") = some (.ref x1)) (h3 : m (Str.ofString "y") = some (.ref x2)) (h4 : m (Str.ofString "double") = some (.ref D1)) (h5 : m (Str.ofString "half") = some (.ref D2)) : EvN5 p u x1 x2 D1 D2 m := ⟨⟨h1, h2, h3⟩, h4, h5⟩
theorem EvN5.b (h : EvN5 p u x1 x2 D1 D2 m) : m (Str.ofString "bits") = some (.int p u) := h.1.1
theorem EvN5.x (h : EvN5 p u x1 x2 D1 D2 m) : m (Str.ofString "x") = some (.ref x1) := h.1.2.1
theorem EvN5.y (h : EvN5 p u x1 x2 D1 D2 m) : m (Str.ofString "y") = some (.ref x2) := h.1.2.2
theorem EvN5.d (h : EvN5 p u x1 x2 D1 D2 m) : m (Str.ofString "double") = some (.ref D1) := h.2.1
theorem EvN5.h (h : EvN5 p u x1 x2 D1 D2 m) : m (Str.ofString "half") = some (.ref D2) := h.2.2
/-- what is kept of the ledger -/
def EvK (w : World) (x1 dx1 : Addr) (m1 e1 : Int) (ta1 : TK) (x2 dx2 : Addr) (m2 e2 : Int) (ta2 : TK) : List (Addr × Obj) := [(x1, instObj 108 dx1), (dx1, RD w m1 e1 ta1), (x2, instObj 108 dx2), (dx2, RD w m2 e2 ta2)]
theorem EvK.mk (h1 : (x1, instObj 108 dx1) ∈ X) (h2 : (dx1, RD w m1 e1 ta1) ∈ X) (h3 : (x2, instObj 108 dx2) ∈ X) (h4 : (dx2, RD w m2 e2 ta2) ∈ X) : ∀ p ∈ EvK w x1 dx1 m1 e1 ta1 x2 dx2 m2 e2 ta2, p ∈ X := sub_cons h1 (sub_cons h2 (sub_cons h3 (sub_cons h4 sub_nil)))
theorem EvK.h1 (h : ∀ p ∈ EvK w x1 dx1 m1 e1 ta1 x2 dx2 m2 e2 ta2, p ∈ X) : (x1, instObj 108 dx1) ∈ X := h _ (.head _)
theorem EvK.h2 (h : ∀ p ∈ EvK w x1 dx1 m1 e1 ta1 x2 dx2 m2 e2 ta2, p ∈ X) : (dx1, RD w m1 e1 ta1) ∈ X := h _ (.tail _ (.head _))
theorem EvK.h3 (h : ∀ p ∈ EvK w x1 dx1 m1 e1 ta1 x2 dx2 m2 e2 ta2, p ∈ X) : (x2, instObj 108 dx2) ∈ X := h _ (.tail _ (.tail _ (.head _)))
theorem EvK.h4 (h : ∀ p ∈ EvK w x1 dx1 m1 e1 ta1 x2 dx2 m2 e2 ta2, p ∈ X) : (dx2, RD w m2 e2 ta2) ∈ X := h _ (.tail _ (.tail _ (.tail _ (.head _))))
theorem not_list {p : Addr × Obj} (h : p.2.cls ≠ .type "list") : ∀ a k, p.2 ≠ listOf a k := fun a k e => h (by rw [e])
theorem EvK.c : ∀ p ∈ EvK w x1 dx1 m1 e1 ta1 x2 dx2 m2 e2 ta2, ∀ a k, p.2 ≠ listOf a k := by
  intro p hp
  refine not_list ?_
  simp only [EvK, List.mem_cons, List.mem_nil_iff, or_false] at hp
  rcases hp with rfl | rfl | rfl | rfl <;> simp
def EvK8 (w : World) (x1 dx1 : Addr) (m1 e1 : Int) (ta1 : TK) (x2 dx2 : Addr) (m2 e2 : Int) (ta2 : TK) (D1 E1 : Addr) (u1 : TK) (D2 E2 : Addr) (v1 : TK) : List (Addr × Obj) := EvK w x1 dx1 m1 e1 ta1 x2 dx2 m2 e2 ta2 ++ EvK w D1 E1 m1 (e1 + 1) u1 D2 E2 m1 (e1 - 1) v1
theorem EvK8.mk (h1 : ∀ p ∈ EvK w x1 dx1 m1 e1 ta1 x2 dx2 m2 e2 ta2, p ∈ X) (h2 : ∀ p ∈ EvK w D1 E1 m1 (e1 + 1) u1 D2 E2 m1 (e1 - 1) v1, p ∈ X) : ∀ p ∈ EvK8 w x1 dx1 m1 e1 ta1 x2 dx2 m2 e2 ta2 D1 E1 u1 D2 E2 v1, p ∈ X := fun p hp => (List.mem_append.mp hp).elim (h1 p) (h2 p)
theorem EvK8.l (h : ∀ p ∈ EvK8 w x1 dx1 m1 e1 ta1 x2 dx2 m2 e2 ta2 D1 E1 u1 D2 E2 v1, p ∈ X) : ∀ p ∈ EvK w x1 dx1 m1 e1 ta1 x2 dx2 m2 e2 ta2, p ∈ X := fun p hp => h p (List.mem_append_left _ hp)
theorem EvK8.r (h : ∀ p ∈ EvK8 w x1 dx1 m1 e1 ta1 x2 dx2 m2 e2 ta2 D1 E1 u1 D2 E2 v1, p ∈ X) : ∀ p ∈ EvK w D1 E1 m1 (e1 + 1) u1 D2 E2 m1 (e1 - 1) v1, p ∈ X := fun p hp => h p (List.mem_append_right _ hp)
theorem EvK8.c : ∀ p ∈ EvK8 w x1 dx1 m1 e1 ta1 x2 dx2 m2 e2 ta2 D1 E1 u1 D2 E2 v1, ∀ a k, p.2 ≠ listOf a k := fun p hp => (List.mem_append.mp hp).elim (EvK.c p) (EvK.c p)
end

local macro_rules | `(tactic| walk_at "eval Name") => `(tactic| (k_here; k_dflt (refine' nameX_L ?F ?hv ?_ ?hk ?hx ?hd; (case F => k_asm); (case hv => assumption); (case hk => exact rfl); (case hx => exact rfl); (case hd => decide))))

def Hold (P : Prop) : Prop := P
theorem hold_out {P : Prop} (h : Hold P) : P := h
local macro_rules | `(tactic| walk_at "execs cons") => `(tactic| (k_here; (with_reducible show wpAny _ _ (execs (Stmt.Assign [Expr.Name _ _] _ _ :: Stmt.Assign _ _ _ :: Stmt.Expr _ _ :: _) _) _ _ _); refine hold_out ?_))
theorem eq_nil {prog : Program} {w : World} {A : Around} {E : Value → Shared → Prop} {s : Shared} {a b : Addr} {c c' : Nat} {h₀ : Heap} {L : Addr} {news : List (Addr × Obj)} {Q : Value → Shared → Prop} (N : News h₀ L s.heap news)
    (ha : (a, listOf ([] : List Value).toArray c) ∈ news) (hb : (b, listOf ([] : List Value).toArray c') ∈ news) (hu : A.units + 64 < cLine) (h : Q (.bool true) s) :
    wpAny (model prog w) A (compareOp .Eq (.ref a) (.ref b)) Q E s := ke_eq_ints ⟨_, (N _ ha).1, rfl, _, rfl⟩ ⟨_, (N _ hb).1, rfl, _, rfl⟩ .nil .nil hu h
local macro_rules | `(tactic| walk_at "compareOp Eq ref ref") => `(tactic| (k_here; k_dflt (refine' eq_nil ?N ?ha ?hb ?hu ?_; (case N => k_asm); (case ha => k_mem); (case hb => k_mem); (case hu => ktr_units))))
local macro_rules | `(tactic| walk_at "eval ListComp") => `(tactic| (k_here; k_dflt (refine' comp_pairs ?kF ?kN ?kh ?ky ?ks ?kall ?kturn ?kfin ?c1 ?c2 ?c3 ?c4 ?c5 ?c6 ?c7 ?c8 ?c9 ?c10 ?c11; (case kF => k_asm); (case kN => k_asm); (case kh => exact rfl); (case ky => first | assumption | exact rfl); (case ks => omega); (case kall => assumption); (case c1 => with_unfolding_all exact rfl); (case c2 => decide); (case c3 => exact rfl); (case c4 => decide); (case c5 => exact rfl); (case c6 => exact rfl); (case c7 => decide); (case c8 => exact rfl); (case c9 => exact rfl); (case c10 => decide); (case c11 => (intro z; exact rfl)); (case' kturn => (intro a9 da9 b9 db9 m19 e19 m29 e29 ta9 tb9 I9 oI9 C9 oC9 D9 m99 h99 tk99 E99 hok9 ha9 hda9 hb9 hdb9 hC9 hx9 hy9 hF9 hN9; (try ktr_unf); walk_say "TURN")); (case' kfin => (intro D9 h9 tk9 F9 N9)))))

theorem hold_ev {w : World} {h₀ h' : Heap} {L pl x1 x2 : Addr} {p m1 e1 : Int} {u : Tok} {news X nw : List (Addr × Obj)} {n k : Nat} {s : Shared} {M : Model} {A : Around} {Q : Flow → Shared → Prop} {E : Value → Shared → Prop} {env : Env} {sts : List Stmt} {its : List Value} {m : Str → Option Value} {tk' : Nat} {D1 E1 D2 E2 dx1 dx2 : Addr} {u1 v1 ta1 ta2 : TK} {m2 e2 : Int}
    (F : Fr h₀ L h' m) (N : News h₀ L h' nw) (hnb : m (Str.ofString "bits") = some (.int p u)) (hnx : m (Str.ofString "x") = some (.ref x1)) (hny : m (Str.ofString "y") = some (.ref x2)) (hnp : m (Str.ofString "pairs") = some (.ref pl)) (hnd : m (Str.ofString "double") = some (.ref D1)) (hnh : m (Str.ofString "half") = some (.ref D2))
    (hp : (pl, listOf its.toArray k) ∈ nw) (k1 : (D1, instObj 108 E1) ∈ nw) (k2 : (E1, RD w m1 (e1 + 1) u1) ∈ nw) (k3 : (D2, instObj 108 E2) ∈ nw) (k4 : (E2, RD w m1 (e1 - 1) v1) ∈ nw) (hX : ∀ p ∈ X, p ∈ nw) (hK : ∀ p ∈ EvK w x1 dx1 m1 e1 ta1 x2 dx2 m2 e2 ta2, p ∈ X) (hall : ∀ v ∈ its, PairAt w EvOk X v) (hn : its.length ≤ n) (hs : ∀ p ∈ news, p ∈ X) (hne : ∀ p ∈ X, p.1 ≠ pl)
    (next : ∀ (D1 E1 D2 E2 : Addr) (u1 v1 : TK) (s' : Shared), PMid w EvOk h₀ L (EvN5 p u x1 x2 D1 D2) news (EvK8 w x1 dx1 m1 e1 ta1 x2 dx2 m2 e2 ta2 D1 E1 u1 D2 E2 v1) n s s' → wpAny M A (execs sts env) Q E s') : Hold (wpAny M A (execs sts env) Q E { s with heap := h', toks := tk' }) :=
  next D1 E1 D2 E2 u1 v1 _ (pmid_new (Q := fun _ s'' => PMid w EvOk h₀ L (EvN5 p u x1 x2 D1 D2) news (EvK8 w x1 dx1 m1 e1 ta1 x2 dx2 m2 e2 ta2 D1 E1 u1 D2 E2 v1) n s s'') (X := nw) (fun _ h => h) F N (EvN5.mk hnb hnx hny hnd hnh) hnp hp (fun _ h => h) (EvK8.mk (fun p hp => hX p (hK p hp)) (EvK.mk k1 k2 k3 k4)) EvK8.c (fun v hv => (hall v hv).mono hX) hn (fun p hp => hX p (hs p hp)) (fun p hp => hne p (hs p hp)))
local macro_rules | `(tactic| walk_at "call builtin:list.append") => `(tactic| (k_here; (with_reducible show wpAny _ _ (call (Value.builtin _) [Value.ref _, _]) _ _ _); k_dflt (refine' append_K ?k1 ?k2 ?k3 ?_ ?z; (case k1 => k_asm); (case k2 => k_asm); (case k3 => k_upd); (case z => (rw [sizeLine_eq]; simp only [List.size_toArray]; omega)); k_whole); intro h' F' N'))

theorem sqrt_nul_spec (p : Int) (u : Tok) (x1 dx1 : Addr) (m1 e1 : Int) (ta1 : TK) : Cx w mean mg mb 266 60 (fun news => ((x1, instObj 108 dx1) ∈ news ∧ (dx1, RD w m1 e1 ta1) ∈ news) ∧ m1 = 0) [.int p u, .ref x1] (RetRef x1) := by
  by_cases h0 : m1 = 0
  · subst h0
    intro dp un gd cn cs a ccd cl outer A₀ base h₀ L m news s Q E B F X N T hk hpre hd hu hret
    exact sqrt_zero_spec p u x1 dx1 e1 ta1 dp un gd cn cs a ccd cl outer A₀ base h₀ L m news s Q E B F X N T hk hpre.1 hd hu hret
  · intro dp un gd cn cs a ccd cl outer A₀ base h₀ L m news s Q E B F X N T hk hpre
    exact absurd hpre.2 h0
local macro_rules | `(tactic| walk_at "call ref") => `(tactic| (k_here; (with_reducible show wpAny _ _ (call (Value.ref 266) [Value.int _ _, Value.ref _]) _ _ _); k_dflt (refine' cx_use ?k1 ?k2 ?k3 ?k4 ?k5 ?kK (sqrt_nul_spec _ _ _ _ _ _ _) ?kp ?kd ?ku ?_; (case k1 => k_asm); (case k2 => k_asm); (case k3 => k_asm); (case k4 => k_asm); (case k5 => k_asm); (case kK => first | exact rfl | assumption); (case kp => (refine' ⟨⟨?kva, ?kvb⟩, ?kx⟩; (case kva => (repeat (first | exact List.Mem.head _ | refine' List.Mem.tail _ ?_ | assumption))); (case kvb => (repeat (first | exact List.Mem.head _ | refine' List.Mem.tail _ ?_ | assumption))); (case kx => assumption))); (case kd => ktr_room); (case ku => ktr_units)); refine' ret_ref ?_; intro h9 tk9 F9 N9; (try k_sweep); (try dsimp only); (try k_fold)))
theorem law_is_even_spec (p : Int) (u : Tok) (x1 dx1 : Addr) (m1 e1 : Int) (ta1 : TK) (x2 dx2 : Addr) (m2 e2 : Int) (ta2 : TK) : Cx w mean mg mb 297 80 (fun news => ((x1, instObj 108 dx1) ∈ news ∧ (dx1, RD w m1 e1 ta1) ∈ news) ∧ ((x2, instObj 108 dx2) ∈ news ∧ (dx2, RD w m2 e2 ta2) ∈ news) ∧ 2 ≤ p ∧ p ≤ 9 ∧ FL p m1 e1 ∧ FL p m2 e2) [.int p u, .ref x1, .ref x2] (RetBool true) := by
  unfold Cx
  k_fill
  intro dp un gd cn cs a ccd cl outer A₀ base h₀ L m news s Q E B F X N T hk hpre hd hu hret
  obtain ⟨⟨hm1, hm2⟩, ⟨hm3, hm4⟩, hp1, hp2, hf1, hf2⟩ := hpre
  have hp := fl_p hp1 hp2
  have hr1 := fl_r hp1 hp2 hf1
  have hr2 := fl_r hp1 hp2 hf2
  have hr3 := neg_ok hr1
  have hr4 := neg_ok hr2
  have hr00 : rOk 0 0 := ⟨by decide +kernel, by omega, by omega⟩
  have hr10 : rOk 1 0 := ⟨by decide +kernel, by omega, by omega⟩
  have hr11 : rOk 1 1 := ⟨by decide +kernel, by omega, by omega⟩
  have hn1 : (1 : Int) ≠ 0 := by decide
  obtain ⟨ev1, ev2, ev3, ev4, ev5, ev6, ev7, ev8, ev9, hr5⟩ := ev_all hp1 hp2 hf1 hf2
  refine wpAny_call ?_
  k_dflt ktr_enter
  have hK := EvK.mk (w := w) hm1 hm2 hm3 hm4
  rename_i g9 L9 h9 FG9 F9 N9 B9 X9 T9
  refine cut_stmt (PMid w EvOk g9 L9 (EvN p u x1 x2) news (EvK w x1 dx1 m1 e1 ta1 x2 dx2 m2 e2 ta2) 2 s) ?_ ?_
  · intro Q9 hQ9
    k_steps
    (refine' pmid_new (its := [_, _]) (X := news) hQ9 ?zF ?zN ?zM ?zm ?zp ?zX hK EvK.c ?za ?zn (fun _ h => h) ?zq; (case zF => k_asm); (case zN => k_asm); (case zp => k_mem); (case zX => exact fun _ h => by repeat (first | exact h | refine List.Mem.tail _ ?_)); (case zM => exact EvN.mk rfl rfl rfl); (case zm => exact rfl); (case za => (intro v hv; rcases List.mem_cons.mp hv with rfl | hv; (focus tb_start); rcases List.mem_cons.mp hv with rfl | hv; (focus tb_start); exact nomatch hv)); (case zn => (simp only [List.length_cons, List.length_nil]; omega)); (case zq => exact allLt_ne (by tb_rel)))
  clear F9 N9 hK hm1 hm2 hm3 hm4
  refine pmid_elim ?_
  intro pl its k X mm hh tkk hM9 hnp F9 N9 hne hall hn hK hs
  have hnb := EvN.b hM9
  have hnx := EvN.x hM9
  have hny := EvN.y hM9
  clear hM9
  have hm1 := EvK.h1 hK
  have hm2 := EvK.h2 hK
  have hm3 := EvK.h3 hK
  have hm4 := EvK.h4 hK
  refine cut_stmt (PMid w EvOk g9 L9 (EvN p u x1 x2) news (EvK w x1 dx1 m1 e1 ta1 x2 dx2 m2 e2 ta2) 3 s) ?_ ?_
  · intro Q9 hQ9
    k_steps
    (refine' pmid_app (X := X) hQ9 ?zFa ?zNa ?zMa ?zma ?zpa ?zXa hK EvK.c hall ?zva hn ?zna hs hne; (case zFa => k_asm); (case zNa => k_asm); (case zpa => k_mem); (case zXa => exact fun _ h => by repeat (first | exact h | refine List.Mem.tail _ ?_)); (case zMa => exact EvN.mk hnb hnx hny); (case zma => assumption); (case zva => tb_start); (case zna => omega))
  clear F9 N9 hK hm1 hm2 hm3 hm4 hnb hnx hny hnp hne hall hn hs
  clear tkk hh mm X k its pl
  refine pmid_elim ?_
  intro pl its k X mm hh tkk hM9 hnp F9 N9 hne hall hn hK hs
  have hnb := EvN.b hM9
  have hnx := EvN.x hM9
  have hny := EvN.y hM9
  clear hM9
  have hm1 := EvK.h1 hK
  have hm2 := EvK.h2 hK
  have hm3 := EvK.h3 hK
  have hm4 := EvK.h4 hK
  refine cut_stmt (PMid w EvOk g9 L9 (EvN p u x1 x2) news (EvK w x1 dx1 m1 e1 ta1 x2 dx2 m2 e2 ta2) 4 s) ?_ ?_
  · intro Q9 hQ9
    k_steps
    (refine' pmid_app (X := X) hQ9 ?zFb ?zNb ?zMb ?zmb ?zpb ?zXb hK EvK.c hall ?zvb hn ?znb hs hne; (case zFb => k_asm); (case zNb => k_asm); (case zpb => k_mem); (case zXb => exact fun _ h => by repeat (first | exact h | refine List.Mem.tail _ ?_)); (case zMb => exact EvN.mk hnb hnx hny); (case zmb => assumption); (case zvb => tb_start); (case znb => omega))
  clear F9 N9 hK hm1 hm2 hm3 hm4 hnb hnx hny hnp hne hall hn hs
  clear tkk hh mm X k its pl
  refine pmid_elim ?_
  intro pl its k X mm hh tkk hM9 hnp F9 N9 hne hall hn hK hs
  have hnb := EvN.b hM9
  have hnx := EvN.x hM9
  have hny := EvN.y hM9
  clear hM9
  have hm1 := EvK.h1 hK
  have hm2 := EvK.h2 hK
  have hm3 := EvK.h3 hK
  have hm4 := EvK.h4 hK
  refine cut_stmt (PMid w EvOk g9 L9 (EvN p u x1 x2) news (EvK w x1 dx1 m1 e1 ta1 x2 dx2 m2 e2 ta2) 5 s) ?_ ?_
  · intro Q9 hQ9
    k_steps
    (refine' pmid_app (X := X) hQ9 ?zFc ?zNc ?zMc ?zmc ?zpc ?zXc hK EvK.c hall ?zvc hn ?znc hs hne; (case zFc => k_asm); (case zNc => k_asm); (case zpc => k_mem); (case zXc => exact fun _ h => by repeat (first | exact h | refine List.Mem.tail _ ?_)); (case zMc => exact EvN.mk hnb hnx hny); (case zmc => assumption); (case zvc => tb_start); (case znc => omega))
  clear F9 N9 hK hm1 hm2 hm3 hm4 hnb hnx hny hnp hne hall hn hs
  clear tkk hh mm X k its pl
  refine pmid_elim ?_
  intro pl its k X mm hh tkk hM9 hnp F9 N9 hne hall hn hK hs
  have hnb := EvN.b hM9
  have hnx := EvN.x hM9
  have hny := EvN.y hM9
  clear hM9
  have hm1 := EvK.h1 hK
  have hm2 := EvK.h2 hK
  have hm3 := EvK.h3 hK
  have hm4 := EvK.h4 hK
  refine cut_stmt (PMid w EvOk g9 L9 (EvN p u x1 x2) news (EvK w x1 dx1 m1 e1 ta1 x2 dx2 m2 e2 ta2) 7 s) ?_ ?_
  · intro Q9 hQ9
    k_steps
    (refine' pmid_new (its := its ++ [_, _]) (X := X) hQ9 ?zFd ?zNd ?zMd ?zmd ?zpd ?zXd hK EvK.c ?zad ?znd hs ?zqd; (case zFd => k_asm); (case zNd => k_asm); (case zpd => k_mem); (case zXd => exact fun _ h => by repeat (first | exact h | refine List.Mem.tail _ ?_)); (case zMd => exact EvN.mk hnb hnx hny); (case zmd => exact rfl); (case zad => (intro v hv; rcases List.mem_append.mp hv with hv | hv; (focus exact (hall v hv).mono (fun _ h => by repeat (first | exact h | refine List.Mem.tail _ ?_))); rcases List.mem_cons.mp hv with rfl | hv; (focus tb_start); rcases List.mem_cons.mp hv with rfl | hv; (focus tb_start); exact nomatch hv)); (case znd => (simp only [List.length_append, List.length_cons, List.length_nil]; omega)); (case zqd => exact fun p9 hp9 => Nat.ne_of_lt ((by assumption : ∀ p ∈ _, p.1 < _) p9 (by have h := hs p9 hp9; repeat (first | exact h | refine List.Mem.tail _ ?_)))))
  clear F9 N9 hK hm1 hm2 hm3 hm4 hnb hnx hny hnp hne hall hn hs
  clear tkk hh mm X k its pl
  refine pmid_elim ?_
  intro pl its k X mm hh tkk hM9 hnp F9 N9 hne hall hn hK hs
  have hnb := EvN.b hM9
  have hnx := EvN.x hM9
  have hny := EvN.y hM9
  clear hM9
  have hm1 := EvK.h1 hK
  have hm2 := EvK.h2 hK
  have hm3 := EvK.h3 hK
  have hm4 := EvK.h4 hK
  refine cut_stmt (PMid w EvOk g9 L9 (EvN p u x1 x2) news (EvK w x1 dx1 m1 e1 ta1 x2 dx2 m2 e2 ta2) 9 s) ?_ ?_
  · intro Q9 hQ9
    k_steps
    (refine' pmid_new (its := its ++ [_, _]) (X := X) hQ9 ?zFe ?zNe ?zMe ?zme ?zpe ?zXe hK EvK.c ?zae ?zne hs ?zqe; (case zFe => k_asm); (case zNe => k_asm); (case zpe => k_mem); (case zXe => exact fun _ h => by repeat (first | exact h | refine List.Mem.tail _ ?_)); (case zMe => exact EvN.mk hnb hnx hny); (case zme => exact rfl); (case zae => (intro v hv; rcases List.mem_append.mp hv with hv | hv; (focus exact (hall v hv).mono (fun _ h => by repeat (first | exact h | refine List.Mem.tail _ ?_))); rcases List.mem_cons.mp hv with rfl | hv; (focus tb_start); rcases List.mem_cons.mp hv with rfl | hv; (focus tb_start); exact nomatch hv)); (case zne => (simp only [List.length_append, List.length_cons, List.length_nil]; omega)); (case zqe => exact fun p9 hp9 => Nat.ne_of_lt ((by assumption : ∀ p ∈ _, p.1 < _) p9 (by have h := hs p9 hp9; repeat (first | exact h | refine List.Mem.tail _ ?_)))))
  clear F9 N9 hK hm1 hm2 hm3 hm4 hnb hnx hny hnp hne hall hn hs
  clear tkk hh mm X k its pl
  refine pmid_elim ?_
  intro pl its k X mm hh tkk hM9 hnp F9 N9 hne hall hn hK hs
  have hnb := EvN.b hM9
  have hnx := EvN.x hM9
  have hny := EvN.y hM9
  clear hM9
  have hm1 := EvK.h1 hK
  have hm2 := EvK.h2 hK
  have hm3 := EvK.h3 hK
  have hm4 := EvK.h4 hK
  refine cut_stmt (PMid w EvOk g9 L9 (EvN p u x1 x2) news (EvK w x1 dx1 m1 e1 ta1 x2 dx2 m2 e2 ta2) 10 s) ?_ ?_
  · intro Q9 hQ9
    by_cases h0 : m1 = 0
    · obtain ⟨hz1, hz2⟩ := ev_zero hp1 hp2 hf1 h0
      k_steps
      (refine' pmid_app (X := X) hQ9 ?zFf ?zNf ?zMf ?zmf ?zpf ?zXf hK EvK.c hall ?zvf hn ?znf hs hne; (case zFf => k_asm); (case zNf => k_asm); (case zpf => k_mem); (case zXf => exact fun _ h => by repeat (first | exact h | refine List.Mem.tail _ ?_)); (case zMf => exact EvN.mk hnb hnx hny); (case zmf => assumption); (case zvf => tb_start); (case znf => omega))
    · obtain ⟨hz1, hz2, -⟩ := ev_non hp1 hp2 hf1 hf2 h0
      k_steps
      (refine' pmid_app (X := X) hQ9 ?zFg ?zNg ?zMg ?zmg ?zpg ?zXg hK EvK.c hall ?zvg hn ?zng hs hne; (case zFg => k_asm); (case zNg => k_asm); (case zpg => k_mem); (case zXg => exact fun _ h => by repeat (first | exact h | refine List.Mem.tail _ ?_)); (case zMg => exact EvN.mk hnb hnx hny); (case zmg => assumption); (case zvg => tb_start); (case zng => omega))
  clear F9 N9 hK hm1 hm2 hm3 hm4 hnb hnx hny hnp hne hall hn hs
  clear tkk hh mm X k its pl
  refine pmid_elim ?_
  intro pl its k X mm hh tkk hM9 hnp F9 N9 hne hall hn hK hs
  have hnb := EvN.b hM9
  have hnx := EvN.x hM9
  have hny := EvN.y hM9
  clear hM9
  have hm1 := EvK.h1 hK
  have hm2 := EvK.h2 hK
  have hm3 := EvK.h3 hK
  have hm4 := EvK.h4 hK
  refine cut_stmt (PMid w EvOk g9 L9 (EvN p u x1 x2) news (EvK w x1 dx1 m1 e1 ta1 x2 dx2 m2 e2 ta2) 15 s) ?_ ?_
  · intro Q9 hQ9
    by_cases h0 : m1 = 0
    · k_steps
      (refine' pmid_new (its := its) (X := X) hQ9 ?zFh ?zNh ?zMh ?zmh ?zph ?zXh hK EvK.c ?zah ?znh hs (fun p9 hp9 => hne p9 (hs p9 hp9)); (case zFh => k_asm); (case zNh => k_asm); (case zph => k_mem); (case zXh => exact fun _ h => by repeat (first | exact h | refine List.Mem.tail _ ?_)); (case zMh => exact EvN.mk hnb hnx hny); (case zmh => assumption); (case zah => exact fun v hv => (hall v hv).mono (fun _ h => by repeat (first | exact h | refine List.Mem.tail _ ?_))); (case znh => omega))
    · obtain ⟨-, -, hz3, hz4, hz5, hz6, hz7⟩ := ev_non hp1 hp2 hf1 hf2 h0
      have hz8 : rOk m1 (e1 + 1) := ⟨hr1.1, by have := hf1.1; omega, by have := hf1.2.1; omega⟩
      k_steps
      (refine' hold_ev (X := X) (p := p) (u := u) (x1 := x1) (x2 := x2) ?yF ?yN ?y1 ?y2 ?y3 ?y4 ?y5 ?y6 ?y7 ?y8 ?y9 ?y10 ?y11 ?yX hK hall hn hs hne ?yn; (case yF => k_asm); (case yN => k_asm); (case y1 => exact hnb); (case y2 => exact hnx); (case y3 => exact hny); (case y4 => exact hnp); (case y5 => exact rfl); (case y6 => exact rfl); (case y7 => k_mem); (case y8 => k_mem); (case y9 => k_mem); (case y10 => k_mem); (case y11 => k_mem); (case yX => exact fun _ h => by repeat (first | exact h | refine List.Mem.tail _ ?_)))
      intro D1 E1 D2 E2 u1 v1
      clear hK hm1 hm2 hm3 hm4 hnb hnx hny hnp hne hall hn hs
      refine pmid_elim ?_
      intro pl its k X mm hh tkk hM9 hnp F9 N9 hne hall hn hK hs
      have hnb := EvN5.b hM9
      have hnx := EvN5.x hM9
      have hny := EvN5.y hM9
      have hnd := EvN5.d hM9
      have hnh := EvN5.h hM9
      clear hM9
      have hm1 := EvK.h1 (EvK8.l hK)
      have hm2 := EvK.h2 (EvK8.l hK)
      have hm3 := EvK.h3 (EvK8.l hK)
      have hm4 := EvK.h4 (EvK8.l hK)
      have hm5 := EvK.h1 (EvK8.r hK)
      have hm6 := EvK.h2 (EvK8.r hK)
      have hm7 := EvK.h3 (EvK8.r hK)
      have hm8 := EvK.h4 (EvK8.r hK)
      refine cut_stmt (PMid w EvOk g9 L9 (EvN5 p u x1 x2 D1 D2) news (EvK8 w x1 dx1 m1 e1 ta1 x2 dx2 m2 e2 ta2 D1 E1 u1 D2 E2 v1) 12 s) ?_ ?_
      · intro Q9 hQ9
        k_steps
        (refine' pmid_new (its := its ++ [_, _]) (X := X) hQ9 ?zFi ?zNi ?zMi ?zmi ?zpi ?zXi hK EvK8.c ?zai ?zni hs ?zqi; (case zFi => k_asm); (case zNi => k_asm); (case zpi => k_mem); (case zXi => exact fun _ h => by repeat (first | exact h | refine List.Mem.tail _ ?_)); (case zMi => exact EvN5.mk hnb hnx hny hnd hnh); (case zmi => exact rfl); (case zai => (intro v hv; rcases List.mem_append.mp hv with hv | hv; (focus exact (hall v hv).mono (fun _ h => by repeat (first | exact h | refine List.Mem.tail _ ?_))); rcases List.mem_cons.mp hv with rfl | hv; (focus tb_start); rcases List.mem_cons.mp hv with rfl | hv; (focus tb_start); exact nomatch hv)); (case zni => (simp only [List.length_append, List.length_cons, List.length_nil]; omega)); (case zqi => exact fun p9 hp9 => Nat.ne_of_lt ((by assumption : ∀ p ∈ _, p.1 < _) p9 (by have h := hs p9 hp9; repeat (first | exact h | refine List.Mem.tail _ ?_)))))
      clear F9 N9 hK hm1 hm2 hm3 hm4 hm5 hm6 hm7 hm8 hnb hnx hny hnd hnh hnp hne hall hn hs
      clear tkk hh mm X k its pl
      refine pmid_elim ?_
      intro pl its k X mm hh tkk hM9 hnp F9 N9 hne hall hn hK hs
      have hnb := EvN5.b hM9
      have hnx := EvN5.x hM9
      have hny := EvN5.y hM9
      have hnd := EvN5.d hM9
      have hnh := EvN5.h hM9
      clear hM9
      have hm1 := EvK.h1 (EvK8.l hK)
      have hm2 := EvK.h2 (EvK8.l hK)
      have hm3 := EvK.h3 (EvK8.l hK)
      have hm4 := EvK.h4 (EvK8.l hK)
      have hm5 := EvK.h1 (EvK8.r hK)
      have hm6 := EvK.h2 (EvK8.r hK)
      have hm7 := EvK.h3 (EvK8.r hK)
      have hm8 := EvK.h4 (EvK8.r hK)
      refine cut_stmt (PMid w EvOk g9 L9 (EvN5 p u x1 x2 D1 D2) news (EvK8 w x1 dx1 m1 e1 ta1 x2 dx2 m2 e2 ta2 D1 E1 u1 D2 E2 v1) 14 s) ?_ ?_
      · intro Q9 hQ9
        k_steps
        (refine' pmid_new (its := its ++ [_, _]) (X := X) hQ9 ?zFj ?zNj ?zMj ?zmj ?zpj ?zXj hK EvK8.c ?zaj ?znj hs ?zqj; (case zFj => k_asm); (case zNj => k_asm); (case zpj => k_mem); (case zXj => exact fun _ h => by repeat (first | exact h | refine List.Mem.tail _ ?_)); (case zMj => exact EvN5.mk hnb hnx hny hnd hnh); (case zmj => exact rfl); (case zaj => (intro v hv; rcases List.mem_append.mp hv with hv | hv; (focus exact (hall v hv).mono (fun _ h => by repeat (first | exact h | refine List.Mem.tail _ ?_))); rcases List.mem_cons.mp hv with rfl | hv; (focus tb_start); rcases List.mem_cons.mp hv with rfl | hv; (focus tb_start); exact nomatch hv)); (case znj => (simp only [List.length_append, List.length_cons, List.length_nil]; omega)); (case zqj => exact fun p9 hp9 => Nat.ne_of_lt ((by assumption : ∀ p ∈ _, p.1 < _) p9 (by have h := hs p9 hp9; repeat (first | exact h | refine List.Mem.tail _ ?_)))))
      clear F9 N9 hK hm1 hm2 hm3 hm4 hm5 hm6 hm7 hm8 hnb hnx hny hnd hnh hnp hne hall hn hs
      clear tkk hh mm X k its pl
      refine pmid_elim ?_
      intro pl its k X mm hh tkk hM9 hnp F9 N9 hne hall hn hK hs
      have hnb := EvN5.b hM9
      have hnx := EvN5.x hM9
      have hny := EvN5.y hM9
      have hnd := EvN5.d hM9
      have hnh := EvN5.h hM9
      clear hM9
      have hm1 := EvK.h1 (EvK8.l hK)
      have hm2 := EvK.h2 (EvK8.l hK)
      have hm3 := EvK.h3 (EvK8.l hK)
      have hm4 := EvK.h4 (EvK8.l hK)
      have hm5 := EvK.h1 (EvK8.r hK)
      have hm6 := EvK.h2 (EvK8.r hK)
      have hm7 := EvK.h3 (EvK8.r hK)
      have hm8 := EvK.h4 (EvK8.r hK)
      have hK0 := EvK8.l hK
      k_steps
      (refine' pmid_app (X := X) hQ9 ?zFk ?zNk ?zMk ?zmk ?zpk ?zXk hK0 EvK.c hall ?zvk hn ?znk hs hne; (case zFk => k_asm); (case zNk => k_asm); (case zpk => k_mem); (case zXk => exact fun _ h => by repeat (first | exact h | refine List.Mem.tail _ ?_)); (case zMk => exact EvN.mk hnb hnx hny); (case zmk => assumption); (case zvk => tb_start); (case znk => omega))
  clear F9 N9 hK hm1 hm2 hm3 hm4 hnb hnx hny hnp hne hall hn hs
  clear tkk hh mm X k its pl
  refine pmid_elim ?_
  intro pl its k X mm hh tkk hM9 hnp F9 N9 hne hall hn hK hs
  have hnb := EvN.b hM9
  have hnx := EvN.x hM9
  have hny := EvN.y hM9
  clear hM9
  have hm1 := EvK.h1 hK
  have hm2 := EvK.h2 hK
  have hm3 := EvK.h3 hK
  have hm4 := EvK.h4 hK
  k_steps
  · exact hret _ _ (by k_asm) (news_sub (by k_asm) fun p9 hp9 => by have h := hs p9 hp9; repeat (first | exact h | refine List.Mem.tail _ ?_))
  all_goals (refine' turn_end ?zt ?zF ?zN; (case zF => k_asm); (case zN => k_asm); (case zt => (rename EvOk _ _ _ _ => hok; simp [hok.1, hok.2])))

local macro_rules | `(tactic| ktr_unf) => `(tactic| with_reducible refine' law_is_even_spec _ _ _ _ _ _ _ _ _ _ _ _)

section
variable {w : World} {p m1 e1 m2 e2 m3 e3 : Int} {u : Tok} {x1 dx1 x2 dx2 x3 dx3 : Addr} {ta1 ta2 ta3 : TK} {m : Str → Option Value} {X : List (Addr × Obj)}
def OrN (p : Int) (u : Tok) (x1 x2 x3 : Addr) (m : Str → Option Value) : Prop := m (Str.ofString "bits") = some (.int p u) ∧ m (Str.ofString "x") = some (.ref x1) ∧ m (Str.ofString "y") = some (.ref x2) ∧ m (Str.ofString "z") = some (.ref x3)
theorem OrN.mk (h1 : m (Str.ofString "bits") = some (.int p u)) (h2 : m (Str.ofString "x") = some (.ref x1)) (h3 : m (Str.ofString "y") = some (.ref x2)) (h4 : m (Str.ofString "z") = some (.ref x3)) : OrN p u x1 x2 x3 m := ⟨h1, h2, h3, h4⟩
theorem OrN.b (h : OrN p u x1 x2 x3 m) : m (Str.ofString "bits") = some (.int p u) := h.1
theorem OrN.x (h : OrN p u x1 x2 x3 m) : m (Str.ofString "x") = some (.ref x1) := h.2.1
theorem OrN.y (h : OrN p u x1 x2 x3 m) : m (Str.ofString "y") = some (.ref x2) := h.2.2.1
theorem OrN.z (h : OrN p u x1 x2 x3 m) : m (Str.ofString "z") = some (.ref x3) := h.2.2.2
def OrS (p : Int) (u : Tok) (x1 x2 x3 : Addr) (m3 : Int) (m : Str → Option Value) : Prop := OrN p u x1 x2 x3 m ∧ ∃ t, m (Str.ofString "side") = some (.int (if 0 ≤ m3 then 1 else -1) t)
theorem OrS.pos {t : Tok} (z : 0 ≤ m3) (h1 : m (Str.ofString "bits") = some (.int p u)) (h2 : m (Str.ofString "x") = some (.ref x1)) (h3 : m (Str.ofString "y") = some (.ref x2)) (h4 : m (Str.ofString "z") = some (.ref x3)) (h : m (Str.ofString "side") = some (.int 1 t)) : OrS p u x1 x2 x3 m3 m := ⟨⟨h1, h2, h3, h4⟩, t, by rw [if_pos z]; exact h⟩
theorem OrS.neg {t : Tok} (z : ¬ 0 ≤ m3) (h1 : m (Str.ofString "bits") = some (.int p u)) (h2 : m (Str.ofString "x") = some (.ref x1)) (h3 : m (Str.ofString "y") = some (.ref x2)) (h4 : m (Str.ofString "z") = some (.ref x3)) (h : m (Str.ofString "side") = some (.int (-1) t)) : OrS p u x1 x2 x3 m3 m := ⟨⟨h1, h2, h3, h4⟩, t, by rw [if_neg z]; exact h⟩
theorem OrS.b (h : OrS p u x1 x2 x3 m3 m) : m (Str.ofString "bits") = some (.int p u) := h.1.1
theorem OrS.x (h : OrS p u x1 x2 x3 m3 m) : m (Str.ofString "x") = some (.ref x1) := h.1.2.1
theorem OrS.y (h : OrS p u x1 x2 x3 m3 m) : m (Str.ofString "y") = some (.ref x2) := h.1.2.2.1
theorem OrS.z (h : OrS p u x1 x2 x3 m3 m) : m (Str.ofString "z") = some (.ref x3) := h.1.2.2.2
theorem OrS.s (h : OrS p u x1 x2 x3 m3 m) : ∃ t, m (Str.ofString "side") = some (.int (if 0 ≤ m3 then 1 else -1) t) := h.2
def OrO (p : Int) (u : Tok) (x1 x2 x3 : Addr) (m3 : Int) (m : Str → Option Value) : Prop := OrN p u x1 x2 x3 m ∧ ((0 ≤ m3 ∧ m (Str.ofString "one") = some (.ref x1) ∧ m (Str.ofString "other") = some (.ref x2)) ∨ (m3 < 0 ∧ m (Str.ofString "one") = some (.ref x2) ∧ m (Str.ofString "other") = some (.ref x1)))
theorem OrO.pos (z : 0 ≤ m3) (h1 : m (Str.ofString "bits") = some (.int p u)) (h2 : m (Str.ofString "x") = some (.ref x1)) (h3 : m (Str.ofString "y") = some (.ref x2)) (h4 : m (Str.ofString "z") = some (.ref x3)) (h5 : m (Str.ofString "one") = some (.ref x1)) (h6 : m (Str.ofString "other") = some (.ref x2)) : OrO p u x1 x2 x3 m3 m := ⟨⟨h1, h2, h3, h4⟩, .inl ⟨z, h5, h6⟩⟩
theorem OrO.neg (z : ¬ 0 ≤ m3) (h1 : m (Str.ofString "bits") = some (.int p u)) (h2 : m (Str.ofString "x") = some (.ref x1)) (h3 : m (Str.ofString "y") = some (.ref x2)) (h4 : m (Str.ofString "z") = some (.ref x3)) (h5 : m (Str.ofString "one") = some (.ref x2)) (h6 : m (Str.ofString "other") = some (.ref x1)) : OrO p u x1 x2 x3 m3 m := ⟨⟨h1, h2, h3, h4⟩, .inr ⟨Int.not_le.mp z, h5, h6⟩⟩
theorem OrO.b (h : OrO p u x1 x2 x3 m3 m) : m (Str.ofString "bits") = some (.int p u) := h.1.1
theorem OrO.x (h : OrO p u x1 x2 x3 m3 m) : m (Str.ofString "x") = some (.ref x1) := h.1.2.1
theorem OrO.y (h : OrO p u x1 x2 x3 m3 m) : m (Str.ofString "y") = some (.ref x2) := h.1.2.2.1
theorem OrO.z (h : OrO p u x1 x2 x3 m3 m) : m (Str.ofString "z") = some (.ref x3) := h.1.2.2.2
theorem OrO.key {R : Prop} (h : OrO p u x1 x2 x3 m3 m) (hp1 : 2 ≤ p) (hp2 : p ≤ 9) (hf1 : FL p m1 e1) (hf2 : FL p m2 e2) (hf3 : FL p m3 e3) (hr1 : rOk m1 e1) (hr2 : rOk m2 e2) (hm1 : (x1, instObj 108 dx1) ∈ X) (hm2 : (dx1, RD w m1 e1 ta1) ∈ X) (hm3 : (x2, instObj 108 dx2) ∈ X) (hm4 : (dx2, RD w m2 e2 ta2) ∈ X)
    (f : ∀ (xa dxa : Addr) (ma ea : Int) (a1 : TK) (xb dxb : Addr) (mb eb : Int) (b1 : TK), m (Str.ofString "one") = some (.ref xa) → m (Str.ofString "other") = some (.ref xb) → (xa, instObj 108 dxa) ∈ X → (dxa, RD w ma ea a1) ∈ X → (xb, instObj 108 dxb) ∈ X → (dxb, RD w mb eb b1) ∈ X → rOk ma ea → rOk mb eb →
      OrdP (cmpR m1 e1 m2 e2) (mulF p ma ea m3 e3) (mulF p mb eb m3 e3) → (m3 ≠ 0 → OrdP (cmpR m1 e1 m2 e2) (divF p ma ea m3 e3) (divF p mb eb m3 e3)) → R) : R := by
  rcases h.2 with ⟨hz, h1, h2⟩ | ⟨hz, h1, h2⟩
  · exact f x1 dx1 m1 e1 _ x2 dx2 m2 e2 _ h1 h2 hm1 hm2 hm3 hm4 hr1 hr2 (ord_mul hp1 hp2 hf1 hf2 hf3 hz) fun h0 => ord_div hp1 hp2 hf1 hf2 hf3 (by omega)
  · exact f x2 dx2 m2 e2 _ x1 dx1 m1 e1 _ h1 h2 hm3 hm4 hm1 hm2 hr2 hr1 (ord_lum hp1 hp2 hf1 hf2 hf3 hz) fun h0 => ord_vid hp1 hp2 hf1 hf2 hf3 hz
theorem OrO.on (h : OrO p u x1 x2 x3 m3 m) {m' : Str → Option Value} (h1 : m' (Str.ofString "bits") = m (Str.ofString "bits")) (h2 : m' (Str.ofString "x") = m (Str.ofString "x")) (h3 : m' (Str.ofString "y") = m (Str.ofString "y")) (h4 : m' (Str.ofString "z") = m (Str.ofString "z")) (h5 : m' (Str.ofString "one") = m (Str.ofString "one")) (h6 : m' (Str.ofString "other") = m (Str.ofString "other")) : OrO p u x1 x2 x3 m3 m' := by
  unfold OrO OrN
  rw [h1, h2, h3, h4, h5, h6]
  exact h
/-- what is kept of the ledger -/
def OrK (w : World) (x1 dx1 : Addr) (m1 e1 : Int) (ta1 : TK) (x2 dx2 : Addr) (m2 e2 : Int) (ta2 : TK) (x3 dx3 : Addr) (m3 e3 : Int) (ta3 : TK) (c : Addr) (oc : Obj) : List (Addr × Obj) := EvK w x1 dx1 m1 e1 ta1 x2 dx2 m2 e2 ta2 ++ [(x3, instObj 108 dx3), (dx3, RD w m3 e3 ta3), (c, oc)]
variable {cc : Addr} {oc : Obj}
theorem OrK.mk (h1 : (x1, instObj 108 dx1) ∈ X) (h2 : (dx1, RD w m1 e1 ta1) ∈ X) (h3 : (x2, instObj 108 dx2) ∈ X) (h4 : (dx2, RD w m2 e2 ta2) ∈ X) (h5 : (x3, instObj 108 dx3) ∈ X) (h6 : (dx3, RD w m3 e3 ta3) ∈ X) (c : Addr) (oc : Obj) : ∀ p ∈ OrK w x1 dx1 m1 e1 ta1 x2 dx2 m2 e2 ta2 x3 dx3 m3 e3 ta3 c oc, p ∈ (c, oc) :: X :=
  fun p hp => (List.mem_append.mp hp).elim (EvK.mk (.tail _ h1) (.tail _ h2) (.tail _ h3) (.tail _ h4) p) (sub_cons (.tail _ h5) (sub_cons (.tail _ h6) (sub_cons (.head _) sub_nil)) p)
theorem OrK.l (h : ∀ p ∈ OrK w x1 dx1 m1 e1 ta1 x2 dx2 m2 e2 ta2 x3 dx3 m3 e3 ta3 cc oc, p ∈ X) : ∀ p ∈ EvK w x1 dx1 m1 e1 ta1 x2 dx2 m2 e2 ta2, p ∈ X := fun p hp => h p (List.mem_append_left _ hp)
theorem OrK.h5 (h : ∀ p ∈ OrK w x1 dx1 m1 e1 ta1 x2 dx2 m2 e2 ta2 x3 dx3 m3 e3 ta3 cc oc, p ∈ X) : (x3, instObj 108 dx3) ∈ X := h _ (List.mem_append_right _ (.head _))
theorem OrK.h6 (h : ∀ p ∈ OrK w x1 dx1 m1 e1 ta1 x2 dx2 m2 e2 ta2 x3 dx3 m3 e3 ta3 cc oc, p ∈ X) : (dx3, RD w m3 e3 ta3) ∈ X := h _ (List.mem_append_right _ (.tail _ (.head _)))
theorem OrK.h7 (h : ∀ p ∈ OrK w x1 dx1 m1 e1 ta1 x2 dx2 m2 e2 ta2 x3 dx3 m3 e3 ta3 cc oc, p ∈ X) : (cc, oc) ∈ X := h _ (List.mem_append_right _ (.tail _ (.tail _ (.head _))))
theorem OrK.c {v : Option Value} (hd : oc.data = .cell v) : ∀ p ∈ OrK w x1 dx1 m1 e1 ta1 x2 dx2 m2 e2 ta2 x3 dx3 m3 e3 ta3 cc oc, ∀ a k, p.2 ≠ listOf a k := by
  intro p hp
  rcases List.mem_append.mp hp with hp | hp
  · exact EvK.c p hp
  · simp only [List.mem_cons, List.mem_nil_iff, or_false] at hp
    rcases hp with rfl | rfl | rfl
    · exact not_list (by simp)
    · exact not_list (by simp)
    · intro a k e
      have := congrArg Obj.data e
      rw [hd] at this
      cases this
end
local macro_rules | `(tactic| ktr_unf) => `(tactic| ((with_reducible show wpAny _ _ (PySem.isTrue _ _ _) _ _ _); (rename OrdOk _ _ _ _ _ => hok9); (obtain ⟨hk91, hk92, hk93, hk94⟩ := hok9)))
theorem law_is_ordered_spec (p : Int) (u : Tok) (x1 dx1 : Addr) (m1 e1 : Int) (ta1 : TK) (x2 dx2 : Addr) (m2 e2 : Int) (ta2 : TK) (x3 dx3 : Addr) (m3 e3 : Int) (ta3 : TK) : Cx w mean mg mb 292 80 (fun news => ((x1, instObj 108 dx1) ∈ news ∧ (dx1, RD w m1 e1 ta1) ∈ news) ∧ ((x2, instObj 108 dx2) ∈ news ∧ (dx2, RD w m2 e2 ta2) ∈ news) ∧ ((x3, instObj 108 dx3) ∈ news ∧ (dx3, RD w m3 e3 ta3) ∈ news) ∧ 2 ≤ p ∧ p ≤ 9 ∧ FL p m1 e1 ∧ FL p m2 e2 ∧ FL p m3 e3) [.int p u, .ref x1, .ref x2, .ref x3] (RetBool true) := by
  unfold Cx
  k_fill
  intro dp un gd cn cs a ccd cl outer A₀ base h₀ L m news s Q E B F X N T hk hpre hd hu hret
  obtain ⟨⟨hm1, hm2⟩, ⟨hm3, hm4⟩, ⟨hm5, hm6⟩, hp1, hp2, hf1, hf2, hf3⟩ := hpre
  have hp := fl_p hp1 hp2
  have hr1 := fl_r hp1 hp2 hf1
  have hr2 := fl_r hp1 hp2 hf2
  have hr3 := fl_r hp1 hp2 hf3
  have hw := ord_way hp1 hp2 hf1 hf2
  have ho1 := ord_add hp1 hp2 hf1 hf2 hf3
  have ho2 := ord_sub hp1 hp2 hf1 hf2 hf3
  have ho3 := ord_bus hp1 hp2 hf1 hf2 hf3
  refine wpAny_call ?_
  k_dflt (refine' code_defC ?y1 ?y2 ?y3 ?y4 ?y5 ?yA ?yF ?yK ?y6 ?y7 ?y8 ?y9 ?yB ?yD ?_ ?u2 ?u3 ?u4; (case yA => exact rfl); (case yF => exact rfl); (case yK => assumption); (case y1 => k_asm); (case y2 => k_asm); (case y3 => k_asm); (case y4 => k_asm); (case y5 => k_asm); (case y6 => k_is); (case y7 => k_is); (case y8 => ktr_room); (case y9 => exact BindsTo.of_eq rfl); (case yB => exact rfl); (case yD => decide +kernel); (case u2 => exact rfl); (case u3 => exact rfl); (case u4 => exact rfl); k_whole; intro g9 L9 h9 tk9 cells9 FG9 F9 N9 Y9 B9 X9 T9 l9; k_cells Y9; (try simp only [List.cons_append, List.nil_append] at N9); (try dsimp only); (try k_fold))
  rename_i oc0 hd0
  have hq0 : ∀ p ∈ news, p.1 ≠ L9 + 1 := fun p hp => Nat.ne_of_lt (Nat.lt_succ_of_lt (l9 p hp))
  refine cut_stmt (fun s' => ∃ (oc : Obj) (t : Tok) (m : Str → Option Value) (h' : Heap) (tk' : Nat), s' = { s with heap := h', toks := tk' } ∧ oc.data = .cell (some (.int (cmpR m1 e1 m2 e2) t)) ∧ (OrN p u x1 x2 x3 m) ∧ Fr g9 L9 h' m ∧ News g9 L9 h' ((L9 + 1, oc) :: news)) ?_ ?_
  · intro Q9 hQ9
    k_steps
    exact hQ9 _ ⟨_, _, _, _, _, rfl, by assumption, OrN.mk rfl rfl rfl rfl, by k_asm, by k_asm⟩
  clear F9 N9 hd0
  rintro _ ⟨oc9, tw9, mm, hh, tkk, rfl, hdc, ⟨hnb, hnx, hny, hnz⟩, F9, N9⟩
  have hK := OrK.mk (w := w) hm1 hm2 hm3 hm4 hm5 hm6 (L9 + 1) oc9
  refine cut_stmt (PMid w (OrdOk (cmpR m1 e1 m2 e2)) g9 L9 (OrN p u x1 x2 x3) news (OrK w x1 dx1 m1 e1 ta1 x2 dx2 m2 e2 ta2 x3 dx3 m3 e3 ta3 (L9 + 1) oc9) 2 s) ?_ ?_
  · intro Q9 hQ9
    k_steps
    (refine' pmid_new (its := [_, _]) (X := (L9 + 1, oc9) :: news) hQ9 ?zF ?zN ?zM ?zm ?zp ?zX hK (OrK.c hdc) ?za ?zn (fun _ h => .tail _ h) ?zq; (case zF => k_asm); (case zN => k_asm); (case zp => k_mem); (case zX => exact fun _ h => by repeat (first | exact h | refine List.Mem.tail _ ?_)); (case zM => exact OrN.mk hnb hnx hny hnz); (case zm => exact rfl); (case za => (intro v hv; rcases List.mem_cons.mp hv with rfl | hv; (focus tb_start); rcases List.mem_cons.mp hv with rfl | hv; (focus tb_start); exact nomatch hv)); (case zn => (simp only [List.length_cons, List.length_nil]; omega)); (case zq => exact allLt_ne (by tb_rel)))
  clear F9 N9 hK hm1 hm2 hm3 hm4 hm5 hm6
  refine pmid_elim ?_
  intro pl its k X mm hh tkk hM9 hnp F9 N9 hne hall hn hK hs
  have hnb := OrN.b hM9
  have hnx := OrN.x hM9
  have hny := OrN.y hM9
  have hnz := OrN.z hM9
  clear hM9
  have hm1 := EvK.h1 (OrK.l hK)
  have hm2 := EvK.h2 (OrK.l hK)
  have hm3 := EvK.h3 (OrK.l hK)
  have hm4 := EvK.h4 (OrK.l hK)
  have hm5 := OrK.h5 hK
  have hm6 := OrK.h6 hK
  have hm7 := OrK.h7 hK
  refine cut_stmt (PMid w (OrdOk (cmpR m1 e1 m2 e2)) g9 L9 (OrN p u x1 x2 x3) news (OrK w x1 dx1 m1 e1 ta1 x2 dx2 m2 e2 ta2 x3 dx3 m3 e3 ta3 (L9 + 1) oc9) 3 s) ?_ ?_
  · intro Q9 hQ9
    k_steps
    (refine' pmid_app (X := X) hQ9 ?zFa ?zNa ?zMa ?zma ?zpa ?zXa hK (OrK.c hdc) hall ?zva hn ?zna hs hne; (case zFa => k_asm); (case zNa => k_asm); (case zpa => k_mem); (case zXa => exact fun _ h => by repeat (first | exact h | refine List.Mem.tail _ ?_)); (case zMa => exact OrN.mk hnb hnx hny hnz); (case zma => assumption); (case zva => tb_start); (case zna => omega))
  clear F9 N9 hK hm1 hm2 hm3 hm4 hm5 hm6 hm7 hnb hnx hny hnz hnp hne hall hn hs
  clear tkk hh mm X k its pl
  refine pmid_elim ?_
  intro pl its k X mm hh tkk hM9 hnp F9 N9 hne hall hn hK hs
  have hnb := OrN.b hM9
  have hnx := OrN.x hM9
  have hny := OrN.y hM9
  have hnz := OrN.z hM9
  clear hM9
  have hm1 := EvK.h1 (OrK.l hK)
  have hm2 := EvK.h2 (OrK.l hK)
  have hm3 := EvK.h3 (OrK.l hK)
  have hm4 := EvK.h4 (OrK.l hK)
  have hm5 := OrK.h5 hK
  have hm6 := OrK.h6 hK
  have hm7 := OrK.h7 hK
  refine cut_stmt (PMid w (OrdOk (cmpR m1 e1 m2 e2)) g9 L9 (OrS p u x1 x2 x3 m3) news (OrK w x1 dx1 m1 e1 ta1 x2 dx2 m2 e2 ta2 x3 dx3 m3 e3 ta3 (L9 + 1) oc9) 3 s) ?_ ?_
  · intro Q9 hQ9
    by_cases hz : 0 ≤ m3
    · k_steps
      (refine' pmid_new (its := its) (X := X) hQ9 ?zFb ?zNb ?zMb ?zmb ?zpb ?zXb hK (OrK.c hdc) ?zab ?znb hs (fun p9 hp9 => hne p9 (hs p9 hp9)); (case zFb => k_asm); (case zNb => k_asm); (case zpb => k_mem); (case zXb => exact fun _ h => by repeat (first | exact h | refine List.Mem.tail _ ?_)); (case zMb => exact OrS.pos hz hnb hnx hny hnz rfl); (case zmb => exact hnp); (case zab => exact fun v hv => (hall v hv).mono (fun _ h => by repeat (first | exact h | refine List.Mem.tail _ ?_))); (case znb => omega))
    · k_steps
      (refine' pmid_new (its := its) (X := X) hQ9 ?zFc ?zNc ?zMc ?zmc ?zpc ?zXc hK (OrK.c hdc) ?zac ?znc hs (fun p9 hp9 => hne p9 (hs p9 hp9)); (case zFc => k_asm); (case zNc => k_asm); (case zpc => k_mem); (case zXc => exact fun _ h => by repeat (first | exact h | refine List.Mem.tail _ ?_)); (case zMc => exact OrS.neg hz hnb hnx hny hnz rfl); (case zmc => exact hnp); (case zac => exact fun v hv => (hall v hv).mono (fun _ h => by repeat (first | exact h | refine List.Mem.tail _ ?_))); (case znc => omega))
  clear F9 N9 hK hm1 hm2 hm3 hm4 hm5 hm6 hm7 hnb hnx hny hnz hnp hne hall hn hs
  clear tkk hh mm X k its pl
  refine pmid_elim ?_
  intro pl its k X mm hh tkk hM9 hnp F9 N9 hne hall hn hK hs
  have hnb := OrS.b hM9
  have hnx := OrS.x hM9
  have hny := OrS.y hM9
  have hnz := OrS.z hM9
  obtain ⟨ts, hnt⟩ := OrS.s hM9
  clear hM9
  have hm1 := EvK.h1 (OrK.l hK)
  have hm2 := EvK.h2 (OrK.l hK)
  have hm3 := EvK.h3 (OrK.l hK)
  have hm4 := EvK.h4 (OrK.l hK)
  have hm5 := OrK.h5 hK
  have hm6 := OrK.h6 hK
  have hm7 := OrK.h7 hK
  refine cut_stmt (PMid w (OrdOk (cmpR m1 e1 m2 e2)) g9 L9 (OrO p u x1 x2 x3 m3) news (OrK w x1 dx1 m1 e1 ta1 x2 dx2 m2 e2 ta2 x3 dx3 m3 e3 ta3 (L9 + 1) oc9) 3 s) ?_ ?_
  · intro Q9 hQ9
    by_cases hz : 0 ≤ m3
    · rw [if_pos hz] at hnt
      k_steps
      (refine' pmid_new (its := its) (X := X) hQ9 ?zFd ?zNd ?zMd ?zmd ?zpd ?zXd hK (OrK.c hdc) ?zad ?znd hs (fun p9 hp9 => hne p9 (hs p9 hp9)); (case zFd => k_asm); (case zNd => k_asm); (case zpd => k_mem); (case zXd => exact fun _ h => by repeat (first | exact h | refine List.Mem.tail _ ?_)); (case zMd => exact OrO.pos hz hnb hnx hny hnz rfl rfl); (case zmd => exact hnp); (case zad => exact fun v hv => (hall v hv).mono (fun _ h => by repeat (first | exact h | refine List.Mem.tail _ ?_))); (case znd => omega))
    · rw [if_neg hz] at hnt
      k_steps
      (refine' pmid_new (its := its) (X := X) hQ9 ?zFe ?zNe ?zMe ?zme ?zpe ?zXe hK (OrK.c hdc) ?zae ?zne hs (fun p9 hp9 => hne p9 (hs p9 hp9)); (case zFe => k_asm); (case zNe => k_asm); (case zpe => k_mem); (case zXe => exact fun _ h => by repeat (first | exact h | refine List.Mem.tail _ ?_)); (case zMe => exact OrO.neg hz hnb hnx hny hnz rfl rfl); (case zme => exact hnp); (case zae => exact fun v hv => (hall v hv).mono (fun _ h => by repeat (first | exact h | refine List.Mem.tail _ ?_))); (case zne => omega))
  clear F9 N9 hK hm1 hm2 hm3 hm4 hm5 hm6 hm7 hnb hnx hny hnz hnt hnp hne hall hn hs
  clear ts tkk hh mm X k its pl
  refine pmid_elim ?_
  intro pl its k X mm hh tkk hM9 hnp F9 N9 hne hall hn hK hs
  have hnb := OrO.b hM9
  have hnx := OrO.x hM9
  have hny := OrO.y hM9
  have hnz := OrO.z hM9
  have hm1 := EvK.h1 (OrK.l hK)
  have hm2 := EvK.h2 (OrK.l hK)
  have hm3 := EvK.h3 (OrK.l hK)
  have hm4 := EvK.h4 (OrK.l hK)
  have hm5 := OrK.h5 hK
  have hm6 := OrK.h6 hK
  have hm7 := OrK.h7 hK
  refine cut_stmt (PMid w (OrdOk (cmpR m1 e1 m2 e2)) g9 L9 (OrO p u x1 x2 x3 m3) news (OrK w x1 dx1 m1 e1 ta1 x2 dx2 m2 e2 ta2 x3 dx3 m3 e3 ta3 (L9 + 1) oc9) 4 s) ?_ ?_
  · intro Q9 hQ9
    refine OrO.key hM9 hp1 hp2 hf1 hf2 hf3 hr1 hr2 hm1 hm2 hm3 hm4 ?_
    intro xa dxa ma ea a1 xb dxb mb eb b1 hna hnb' ha1 ha2 hb1 hb2 hra hrb hmul hdiv
    k_steps
    (refine' pmid_app (X := X) hQ9 ?zFf ?zNf ?zMf ?zmf ?zpf ?zXf hK (OrK.c hdc) hall ?zvf hn ?znf hs hne; (case zFf => k_asm); (case zNf => k_asm); (case zpf => k_mem); (case zXf => exact fun _ h => by repeat (first | exact h | refine List.Mem.tail _ ?_)); (case zMf => exact OrO.on hM9 rfl rfl rfl rfl rfl rfl); (case zmf => assumption); (case zvf => tb_start); (case znf => omega))
  clear F9 N9 hK hm1 hm2 hm3 hm4 hm5 hm6 hm7 hnb hnx hny hnz hM9 hnp hne hall hn hs
  clear tkk hh mm X k its pl
  refine pmid_elim ?_
  intro pl its k X mm hh tkk hM9 hnp F9 N9 hne hall hn hK hs
  have hnb := OrO.b hM9
  have hnx := OrO.x hM9
  have hny := OrO.y hM9
  have hnz := OrO.z hM9
  have hm1 := EvK.h1 (OrK.l hK)
  have hm2 := EvK.h2 (OrK.l hK)
  have hm3 := EvK.h3 (OrK.l hK)
  have hm4 := EvK.h4 (OrK.l hK)
  have hm5 := OrK.h5 hK
  have hm6 := OrK.h6 hK
  have hm7 := OrK.h7 hK
  refine cut_stmt (PMid w (OrdOk (cmpR m1 e1 m2 e2)) g9 L9 (OrO p u x1 x2 x3 m3) news (OrK w x1 dx1 m1 e1 ta1 x2 dx2 m2 e2 ta2 x3 dx3 m3 e3 ta3 (L9 + 1) oc9) 5 s) ?_ ?_
  · intro Q9 hQ9
    by_cases h0 : m3 = 0
    · k_steps
      (refine' pmid_new (its := its) (X := X) hQ9 ?zFg ?zNg ?zMg ?zmg ?zpg ?zXg hK (OrK.c hdc) ?zag ?zng hs (fun p9 hp9 => hne p9 (hs p9 hp9)); (case zFg => k_asm); (case zNg => k_asm); (case zpg => k_mem); (case zXg => exact fun _ h => by repeat (first | exact h | refine List.Mem.tail _ ?_)); (case zMg => exact OrO.on hM9 rfl rfl rfl rfl rfl rfl); (case zmg => assumption); (case zag => exact fun v hv => (hall v hv).mono (fun _ h => by repeat (first | exact h | refine List.Mem.tail _ ?_))); (case zng => omega))
    · refine OrO.key hM9 hp1 hp2 hf1 hf2 hf3 hr1 hr2 hm1 hm2 hm3 hm4 ?_
      intro xa dxa ma ea a1 xb dxb mb eb b1 hna hnb' ha1 ha2 hb1 hb2 hra hrb hmul hdiv
      have hdo := hdiv h0
      k_steps
      (refine' pmid_app (X := X) hQ9 ?zFh ?zNh ?zMh ?zmh ?zph ?zXh hK (OrK.c hdc) hall ?zvh hn ?znh hs hne; (case zFh => k_asm); (case zNh => k_asm); (case zph => k_mem); (case zXh => exact fun _ h => by repeat (first | exact h | refine List.Mem.tail _ ?_)); (case zMh => exact OrO.on hM9 rfl rfl rfl rfl rfl rfl); (case zmh => assumption); (case zvh => tb_start); (case znh => omega))
  clear F9 N9 hK hm1 hm2 hm3 hm4 hm5 hm6 hm7 hnb hnx hny hnz hM9 hnp hne hall hn hs
  clear tkk hh mm X k its pl
  refine pmid_elim ?_
  intro pl its k X mm hh tkk hM9 hnp F9 N9 hne hall hn hK hs
  have hnb := OrO.b hM9
  have hnx := OrO.x hM9
  have hny := OrO.y hM9
  have hnz := OrO.z hM9
  have hm1 := EvK.h1 (OrK.l hK)
  have hm2 := EvK.h2 (OrK.l hK)
  have hm3 := EvK.h3 (OrK.l hK)
  have hm4 := EvK.h4 (OrK.l hK)
  have hm5 := OrK.h5 hK
  have hm6 := OrK.h6 hK
  have hm7 := OrK.h7 hK
  refine cut_stmt (PMid w (OrdOk (cmpR m1 e1 m2 e2)) g9 L9 (OrN p u x1 x2 x3) news (OrK w x1 dx1 m1 e1 ta1 x2 dx2 m2 e2 ta2 x3 dx3 m3 e3 ta3 (L9 + 1) oc9) 6 s) ?_ ?_
  · intro Q9 hQ9
    by_cases hx0 : 0 ≤ m1
    · by_cases hy0 : 0 ≤ m2
      · have hso := ord_sqrt hp1 hp2 hf1 hf2 hx0 hy0
        by_cases h1 : m1 = 0 <;> by_cases h2 : m2 = 0
        · skip
          have q1 : sqrtF p m1 e1 = (m1, e1) := by unfold sqrtF; rw [if_pos h1]
          rw [q1] at hso
          have q2 : sqrtF p m2 e2 = (m2, e2) := by unfold sqrtF; rw [if_pos h2]
          rw [q2] at hso
          k_steps
          (refine' pmid_app (X := X) hQ9 ?zFi ?zNi ?zMi ?zmi ?zpi ?zXi hK (OrK.c hdc) hall ?zvi hn ?zni hs hne; (case zFi => k_asm); (case zNi => k_asm); (case zpi => k_mem); (case zXi => exact fun _ h => by repeat (first | exact h | refine List.Mem.tail _ ?_)); (case zMi => exact OrN.mk hnb hnx hny hnz); (case zmi => assumption); (case zvi => tb_start); (case zni => omega))
        · skip
          have q1 : sqrtF p m1 e1 = (m1, e1) := by unfold sqrtF; rw [if_pos h1]
          rw [q1] at hso
          have q2 : 0 < m2 := by omega
          k_steps
          (refine' pmid_app (X := X) hQ9 ?zFj ?zNj ?zMj ?zmj ?zpj ?zXj hK (OrK.c hdc) hall ?zvj hn ?znj hs hne; (case zFj => k_asm); (case zNj => k_asm); (case zpj => k_mem); (case zXj => exact fun _ h => by repeat (first | exact h | refine List.Mem.tail _ ?_)); (case zMj => exact OrN.mk hnb hnx hny hnz); (case zmj => assumption); (case zvj => tb_start); (case znj => omega))
        · skip
          have q1 : 0 < m1 := by omega
          have q2 : sqrtF p m2 e2 = (m2, e2) := by unfold sqrtF; rw [if_pos h2]
          rw [q2] at hso
          k_steps
          (refine' pmid_app (X := X) hQ9 ?zFk ?zNk ?zMk ?zmk ?zpk ?zXk hK (OrK.c hdc) hall ?zvk hn ?znk hs hne; (case zFk => k_asm); (case zNk => k_asm); (case zpk => k_mem); (case zXk => exact fun _ h => by repeat (first | exact h | refine List.Mem.tail _ ?_)); (case zMk => exact OrN.mk hnb hnx hny hnz); (case zmk => assumption); (case zvk => tb_start); (case znk => omega))
        · skip
          have q1 : 0 < m1 := by omega
          have q2 : 0 < m2 := by omega
          k_steps
          (refine' pmid_app (X := X) hQ9 ?zFl ?zNl ?zMl ?zml ?zpl ?zXl hK (OrK.c hdc) hall ?zvl hn ?znl hs hne; (case zFl => k_asm); (case zNl => k_asm); (case zpl => k_mem); (case zXl => exact fun _ h => by repeat (first | exact h | refine List.Mem.tail _ ?_)); (case zMl => exact OrN.mk hnb hnx hny hnz); (case zml => assumption); (case zvl => tb_start); (case znl => omega))
      · k_steps
        (refine' pmid_new (its := its) (X := X) hQ9 ?zFm ?zNm ?zMm ?zmm ?zpm ?zXm hK (OrK.c hdc) ?zam ?znm hs (fun p9 hp9 => hne p9 (hs p9 hp9)); (case zFm => k_asm); (case zNm => k_asm); (case zpm => k_mem); (case zXm => exact fun _ h => by repeat (first | exact h | refine List.Mem.tail _ ?_)); (case zMm => exact OrN.mk hnb hnx hny hnz); (case zmm => assumption); (case zam => exact fun v hv => (hall v hv).mono (fun _ h => by repeat (first | exact h | refine List.Mem.tail _ ?_))); (case znm => omega))
    · k_steps
      (refine' pmid_new (its := its) (X := X) hQ9 ?zFn ?zNn ?zMn ?zmn ?zpn ?zXn hK (OrK.c hdc) ?zan ?znn hs (fun p9 hp9 => hne p9 (hs p9 hp9)); (case zFn => k_asm); (case zNn => k_asm); (case zpn => k_mem); (case zXn => exact fun _ h => by repeat (first | exact h | refine List.Mem.tail _ ?_)); (case zMn => exact OrN.mk hnb hnx hny hnz); (case zmn => assumption); (case zan => exact fun v hv => (hall v hv).mono (fun _ h => by repeat (first | exact h | refine List.Mem.tail _ ?_))); (case znn => omega))
  clear F9 N9 hK hm1 hm2 hm3 hm4 hm5 hm6 hm7 hnb hnx hny hnz hM9 hnp hne hall hn hs
  clear tkk hh mm X k its pl
  refine pmid_elim ?_
  intro pl its k X mm hh tkk hM9 hnp F9 N9 hne hall hn hK hs
  have hnb := OrN.b hM9
  have hnx := OrN.x hM9
  have hny := OrN.y hM9
  have hnz := OrN.z hM9
  clear hM9
  have hm1 := EvK.h1 (OrK.l hK)
  have hm2 := EvK.h2 (OrK.l hK)
  have hm3 := EvK.h3 (OrK.l hK)
  have hm4 := EvK.h4 (OrK.l hK)
  have hm5 := OrK.h5 hK
  have hm6 := OrK.h6 hK
  have hm7 := OrK.h7 hK
  k_steps
  · exact hret _ _ (by k_asm) (news_sub (by k_asm) fun p9 hp9 => by have h := hs p9 hp9; repeat (first | exact h | refine List.Mem.tail _ ?_))
  all_goals (refine' turn_end ?zt ?zF ?zN; (case zF => k_asm); (case zN => k_asm); (case zt => first | rfl | (simp_all; done)))

local macro_rules | `(tactic| ktr_unf) => `(tactic| with_reducible refine' law_is_ordered_spec _ _ _ _ _ _ _ _ _ _ _ _ _ _ _ _ _)

section
variable {w : World} {p m1 e1 m2 e2 : Int} {u t1 t2 : Tok} {x1 dx1 x2 dx2 : Addr} {ta1 ta2 : TK} {m : Str → Option Value} {news X : List (Addr × Obj)}
def ExN (p : Int) (u : Tok) (x1 x2 : Addr) (a b : Int) (m : Str → Option Value) : Prop := EvN p u x1 x2 m ∧ (∃ t, m (Str.ofString "one") = some (.int a t)) ∧ (∃ t, m (Str.ofString "other") = some (.int b t))
theorem ExN.mk {a b : Int} (h1 : m (Str.ofString "bits") = some (.int p u)) (h2 : m (Str.ofString "x") = some (.ref x1)) (h3 : m (Str.ofString "y") = some (.ref x2)) (h4 : m (Str.ofString "one") = some (.int a t1)) (h5 : m (Str.ofString "other") = some (.int b t2)) : ExN p u x1 x2 a b m := ⟨⟨h1, h2, h3⟩, ⟨t1, h4⟩, t2, h5⟩
def ExG (p : Int) (u : Tok) (x1 x2 : Addr) (a b : Int) (m : Str → Option Value) : Prop := ExN p u x1 x2 a b m ∧ ((absI b ≤ absI a ∧ m (Str.ofString "great") = some (.ref x1) ∧ m (Str.ofString "small") = some (.ref x2)) ∨ (absI a ≤ absI b ∧ m (Str.ofString "great") = some (.ref x2) ∧ m (Str.ofString "small") = some (.ref x1)))
theorem ExG.pos {a b : Int} (z : absI b ≤ absI a) (h1 : m (Str.ofString "bits") = some (.int p u)) (h2 : m (Str.ofString "x") = some (.ref x1)) (h3 : m (Str.ofString "y") = some (.ref x2)) (h4 : m (Str.ofString "one") = some (.int a t1)) (h5 : m (Str.ofString "other") = some (.int b t2)) (h6 : m (Str.ofString "great") = some (.ref x1)) (h7 : m (Str.ofString "small") = some (.ref x2)) : ExG p u x1 x2 a b m := ⟨.mk h1 h2 h3 h4 h5, .inl ⟨z, h6, h7⟩⟩
theorem ExG.neg {a b : Int} (z : ¬ absI b ≤ absI a) (h1 : m (Str.ofString "bits") = some (.int p u)) (h2 : m (Str.ofString "x") = some (.ref x1)) (h3 : m (Str.ofString "y") = some (.ref x2)) (h4 : m (Str.ofString "one") = some (.int a t1)) (h5 : m (Str.ofString "other") = some (.int b t2)) (h6 : m (Str.ofString "great") = some (.ref x2)) (h7 : m (Str.ofString "small") = some (.ref x1)) : ExG p u x1 x2 a b m := ⟨.mk h1 h2 h3 h4 h5, .inr ⟨Int.le_of_lt (Int.not_le.mp z), h6, h7⟩⟩
/-- between the statements: the frame's names, the ledger as it was -/
def EMid (h₀ : Heap) (L : Addr) (M0 : (Str → Option Value) → Prop) (news : List (Addr × Obj)) (s s' : Shared) : Prop :=
  ∃ (m : Str → Option Value) (h' : Heap) (tk' : Nat), s' = { s with heap := h', toks := tk' } ∧ M0 m ∧ Fr h₀ L h' m ∧ News h₀ L h' news
theorem emid {h₀ h' : Heap} {L : Addr} {M0 : (Str → Option Value) → Prop} {news nw : List (Addr × Obj)} {s : Shared} {m : Str → Option Value} {tk' : Nat} (F : Fr h₀ L h' m) (N : News h₀ L h' nw) (hM : M0 m) (hs : ∀ p ∈ news, p ∈ nw) {Q : Flow → Shared → Prop} (hQ : ∀ s', EMid h₀ L M0 news s s' → Q .next s') : Q .next { s with heap := h', toks := tk' } :=
  hQ _ ⟨m, h', tk', rfl, hM, F, fun p hp => N p (hs p hp)⟩
theorem exn_elim {h₀ : Heap} {L : Addr} {s : Shared} {a b : Int} {R : Shared → Prop} (f : ∀ (m : Str → Option Value) (h' : Heap) (tk' : Nat) (t1 t2 : Tok), m (Str.ofString "bits") = some (.int p u) → m (Str.ofString "x") = some (.ref x1) → m (Str.ofString "y") = some (.ref x2) → m (Str.ofString "one") = some (.int a t1) → m (Str.ofString "other") = some (.int b t2) →
    Fr h₀ L h' m → News h₀ L h' news → R { s with heap := h', toks := tk' }) : ∀ s', EMid h₀ L (ExN p u x1 x2 a b) news s s' → R s' := by
  rintro _ ⟨m, h', tk', rfl, ⟨⟨h1, h2, h3⟩, ⟨t1, h4⟩, t2, h5⟩, F, N⟩
  exact f m h' tk' t1 t2 h1 h2 h3 h4 h5 F N
theorem exg_elim {h₀ : Heap} {L : Addr} {s : Shared} {R : Shared → Prop} (hp1 : 2 ≤ p) (hp2 : p ≤ 9) (hf1 : FL p m1 e1) (hf2 : FL p m2 e2) (hr1 : rOk m1 e1) (hr2 : rOk m2 e2) (hm1 : (x1, instObj 108 dx1) ∈ news) (hm2 : (dx1, RD w m1 e1 ta1) ∈ news) (hm3 : (x2, instObj 108 dx2) ∈ news) (hm4 : (dx2, RD w m2 e2 ta2) ∈ news)
    (f : ∀ (m : Str → Option Value) (h' : Heap) (tk' : Nat) (t1 t2 : Tok) (xa dxa : Addr) (ma ea : Int) (a1 : TK) (xb dxb : Addr) (mb eb : Int) (b1 : TK), m (Str.ofString "bits") = some (.int p u) → m (Str.ofString "x") = some (.ref x1) → m (Str.ofString "y") = some (.ref x2) → m (Str.ofString "one") = some (.int (atE m1 e1) t1) → m (Str.ofString "other") = some (.int (atE m2 e2) t2) →
      m (Str.ofString "great") = some (.ref xa) → m (Str.ofString "small") = some (.ref xb) → (xa, instObj 108 dxa) ∈ news → (dxa, RD w ma ea a1) ∈ news → (xb, instObj 108 dxb) ∈ news → (dxb, RD w mb eb b1) ∈ news → rOk ma ea → rOk mb eb → TwoOk p ma ea mb eb → atE ma ea + atE mb eb = atE m1 e1 + atE m2 e2 →
      Fr h₀ L h' m → News h₀ L h' news → R { s with heap := h', toks := tk' }) : ∀ s', EMid h₀ L (ExG p u x1 x2 (atE m1 e1) (atE m2 e2)) news s s' → R s' := by
  rintro _ ⟨m, h', tk', rfl, ⟨⟨⟨h1, h2, h3⟩, ⟨t1, h4⟩, t2, h5⟩, ⟨hz, h6, h7⟩ | ⟨hz, h6, h7⟩⟩, F, N⟩
  · exact f m h' tk' t1 t2 x1 dx1 m1 e1 _ x2 dx2 m2 e2 _ h1 h2 h3 h4 h5 h6 h7 hm1 hm2 hm3 hm4 hr1 hr2 (ex_two hp1 hp2 hf1 hf2 hz) rfl F N
  · exact f m h' tk' t1 t2 x2 dx2 m2 e2 _ x1 dx1 m1 e1 _ h1 h2 h3 h4 h5 h6 h7 hm3 hm4 hm1 hm2 hr2 hr1 (ex_two hp1 hp2 hf2 hf1 hz) (Int.add_comm _ _) F N
end
theorem law_is_exact_spec (p : Int) (u : Tok) (x1 dx1 : Addr) (m1 e1 : Int) (ta1 : TK) (x2 dx2 : Addr) (m2 e2 : Int) (ta2 : TK) : Cx w mean mg mb 304 80 (fun news => ((x1, instObj 108 dx1) ∈ news ∧ (dx1, RD w m1 e1 ta1) ∈ news) ∧ ((x2, instObj 108 dx2) ∈ news ∧ (dx2, RD w m2 e2 ta2) ∈ news) ∧ 2 ≤ p ∧ p ≤ 9 ∧ FL p m1 e1 ∧ FL p m2 e2) [.int p u, .ref x1, .ref x2] (RetBool true) := by
  unfold Cx
  k_fill
  intro dp un gd cn cs a ccd cl outer A₀ base h₀ L m news s Q E B F X N T hk hpre hd hu hret
  obtain ⟨⟨hm1, hm2⟩, ⟨hm3, hm4⟩, hp1, hp2, hf1, hf2⟩ := hpre
  have hp := fl_p hp1 hp2
  have hr1 := fl_r hp1 hp2 hf1
  have hr2 := fl_r hp1 hp2 hf2
  have hl1 := ex_low hf1
  have hl2 := ex_low hf2
  obtain ⟨hr3, hl3, hst⟩ := ex_sub hp1 hp2 hf1 hf2
  refine wpAny_call ?_
  k_dflt ktr_enter
  rename_i g9 L9 h9 FG9 F9 N9 B9 X9 T9
  refine cut_stmt (EMid g9 L9 (ExN p u x1 x2 (atE m1 e1) (atE m2 e2)) news s) ?_ ?_
  · intro Q9 hQ9
    k_steps
    (refine' emid ?zFa ?zNa ?zMa ?zsa hQ9; (case zFa => k_asm); (case zNa => k_asm); (case zMa => exact ExN.mk rfl rfl rfl rfl rfl); (case zsa => exact fun _ h => by repeat (first | exact h | refine List.Mem.tail _ ?_)))
  clear F9 N9
  refine exn_elim ?_
  intro mm hh tkk t1 t2 hnb hnx hny hn1 hn2 F9 N9
  refine cut_stmt (EMid g9 L9 (ExN p u x1 x2 (atE m1 e1) (atE m2 e2)) news s) ?_ ?_
  · intro Q9 hQ9
    by_cases hc : 0 < atE m1 e1 ∧ 0 < atE m2 e2 ∧ atE m2 e2 ≤ 2 * atE m1 e1 ∧ atE m1 e1 ≤ 2 * atE m2 e2
    · have hst := hst hc
      obtain ⟨hc1, hc2, hc3, hc4⟩ := hc
      k_steps
      (refine' emid ?zFb ?zNb ?zMb ?zsb hQ9; (case zFb => k_asm); (case zNb => k_asm); (case zMb => exact ExN.mk hnb hnx hny hn1 hn2); (case zsb => exact fun _ h => by repeat (first | exact h | refine List.Mem.tail _ ?_)))
    · k_steps
      all_goals (refine' emid ?zFc ?zNc ?zMc ?zsc hQ9; (case zFc => k_asm); (case zNc => k_asm); (case zMc => exact ExN.mk hnb hnx hny hn1 hn2); (case zsc => exact fun _ h => by repeat (first | exact h | refine List.Mem.tail _ ?_)))
  clear F9 N9 hnb hnx hny hn1 hn2
  clear mm hh tkk t1 t2
  refine exn_elim ?_
  intro mm hh tkk t1 t2 hnb hnx hny hn1 hn2 F9 N9
  refine cut_stmt (EMid g9 L9 (ExG p u x1 x2 (atE m1 e1) (atE m2 e2)) news s) ?_ ?_
  · intro Q9 hQ9
    by_cases hc : (if atE m2 e2 < 0 then -atE m2 e2 else atE m2 e2) ≤ (if atE m1 e1 < 0 then -atE m1 e1 else atE m1 e1)
    · k_steps
      (refine' emid ?zFd ?zNd ?zMd ?zsd hQ9; (case zFd => k_asm); (case zNd => k_asm); (case zMd => exact ExG.pos hc hnb hnx hny hn1 hn2 rfl rfl); (case zsd => exact fun _ h => by repeat (first | exact h | refine List.Mem.tail _ ?_)))
    · k_steps
      (refine' emid ?zFe ?zNe ?zMe ?zse hQ9; (case zFe => k_asm); (case zNe => k_asm); (case zMe => exact ExG.neg hc hnb hnx hny hn1 hn2 rfl rfl); (case zse => exact fun _ h => by repeat (first | exact h | refine List.Mem.tail _ ?_)))
  clear F9 N9 hnb hnx hny hn1 hn2
  clear mm hh tkk t1 t2
  refine exg_elim hp1 hp2 hf1 hf2 hr1 hr2 hm1 hm2 hm3 hm4 ?_
  intro mm hh tkk t1 t2 xa dxa ma ea a1 xb dxb mb eb b1 hnb hnx hny hn1 hn2 hna hnc ha1 ha2 hb1 hb2 hra hrb hTT hsum F9 N9
  obtain ⟨ht1, ht2, ht3, ht4, ht5, ht6⟩ := hTT
  rw [hsum] at ht6
  k_steps
  (refine' end_bool hret (beq_iff_eq.mpr ht6) ?zF ?zN; (case zF => k_asm); (case zN => exact news_sub (by k_asm) (fun _ h => by repeat (first | exact h | refine List.Mem.tail _ ?_))))

local macro_rules | `(tactic| ktr_unf) => `(tactic| with_reducible refine' law_is_exact_spec _ _ _ _ _ _ _ _ _ _ _ _)
end

theorem bits9x : Builtin.Int.intBits 9 ≤ 100 := by decide +kernel
theorem bits2x : Builtin.Int.intBits 2 ≤ 100 := by decide +kernel
theorem bits_lo (n : Int) : 2 ≤ 2 + n.fmod 8 := by have := Int.fmod_nonneg_of_pos n (b := 8) (by omega); omega
theorem bits_hi (n : Int) : 2 + n.fmod 8 ≤ 9 := by have := Int.fmod_lt_of_pos n (b := 8) (by omega); omega
theorem FLt.fl {p m e : Int} (h : FLt p m e) : FL p m e := h.1

theorem hold_in {P : Prop} (h : P) : Hold P := h
/-- between the turns of the law's loop -/
def JL (p : Int) (I : Addr) (m : Str → Option Value) (news : List (Addr × Obj)) : Prop :=
  ∃ (W I' : Addr) (ys : List Value) (ns : List Int) (k : Int) (tk : Tok) (c1 c2 : Nat) (u : Tok), m (Str.ofString "well") = some (.ref W) ∧ m (Str.ofString "bits") = some (.int p u) ∧ news = [(W, listOf #[.ref I', .int k tk] c1), (I', listOf ys.toArray c2)] ∧
    IntsAre ys ns ∧ ys.length ≤ 100 ∧ 0 ≤ k ∧ k ≤ 65536 ∧ @LT.lt Nat _ I' W ∧ @LT.lt Nat _ W I
theorem jl_start {p : Int} {I W I' : Addr} {m : Str → Option Value} {h₀ h : Heap} {L : Addr} {nw : List (Addr × Obj)} {ys : List Value} {ns : List Int} {k : Int} {tk : Tok} {c1 c2 : Nat} {u : Tok} (N : News h₀ L h nw) (hw : m (Str.ofString "well") = some (.ref W)) (hb : m (Str.ofString "bits") = some (.int p u))
    (h1 : (W, listOf #[.ref I', .int k tk] c1) ∈ nw) (h2 : (I', listOf ys.toArray c2) ∈ nw) (hI : IntsAre ys ns) (hl : ys.length ≤ 100) (k0 : 0 ≤ k) (k1 : k ≤ 65536) (o1 : @LT.lt Nat _ I' W) (o2 : @LT.lt Nat _ W I) :
    ∃ news', JL p I m news' ∧ ∀ p ∈ news', p ∈ nw :=
  ⟨_, ⟨W, I', ys, ns, k, tk, c1, c2, u, hw, hb, rfl, hI, hl, k0, k1, o1, o2⟩, fun p hp => by
    rcases List.mem_cons.mp hp with rfl | hp
    · exact h1
    · rcases List.mem_cons.mp hp with rfl | hp
      · exact h2
      · exact nomatch hp⟩
theorem unr_mono {h₀ : Heap} {L : Addr} {s₁ : Shared} {I : Addr} {it : Obj} {r r' : (Str → Option Value) → List (Addr × Obj) → Prop} {Q : Flow → Shared → Prop} {f : Flow} {s₂ : Shared} (h : ∀ m n, r m n → r' m n) (u : UnrPost h₀ L s₁ I it r Q f s₂) : UnrPost h₀ L s₁ I it r' Q f s₂ := by
  have key : UnrEnd h₀ L s₁ I it r s₂ → UnrEnd h₀ L s₁ I it r' s₂ := fun ⟨h', tk, m', n', e, F, N, o, x⟩ => ⟨h', tk, m', n', e, F, N, o, h _ _ x⟩
  cases f with
  | ret v => exact u
  | brk => exact u
  | next => exact key u
  | cont => exact key u
theorem lap_inv {prog : Program} {w : World} {A : Around} {E : Value → Shared → Prop} {s : Shared} {env : Env} {h₀ h1 : Heap} {m1 : Str → Option Value} {L : Addr} {x : Str} {body : List Stmt} {Q : Flow → Shared → Prop} {I : Addr} {a : Int} {n : Nat} {p : Int} (_ : Fr h₀ L h1 m1) (hL : env.locals = L) (nw : Str.ofString "well" ≠ x) (nb : Str.ofString "bits" ≠ x)
    (turn : ∀ (s1 : Shared) (m : Str → Option Value) (z1 z2 : Int) (W I' : Addr) (ys : List Value) (ns : List Int) (k : Int) (tk : Tok) (c1 c2 : Nat) (u : Tok), m (Str.ofString "well") = some (.ref W) → m (Str.ofString "bits") = some (.int p u) → IntsAre ys ns → ys.length ≤ 100 → 0 ≤ k → k ≤ 65536 → @LT.lt Nat _ I' W → @LT.lt Nat _ W I →
      Fr h₀ L s1.heap m → News h₀ L s1.heap [(I, itR z1 z2), (W, listOf #[.ref I', .int k tk] c1), (I', listOf ys.toArray c2)] →
      wpAny (model prog w) A (execs body env) (UnrPost h₀ L s1 I (itR z1 z2) (JL p I) Q) E s1)
    (done : ∀ (m : Str → Option Value) (h : Heap) (tk : Nat), Fr h₀ L h m → Q .next { s with heap := h, toks := tk }) :
    ∀ (k i : Nat) (m : Str → Option Value) (news : List (Addr × Obj)), JL p I m news → RangeRest prog w A E h₀ env x body Q s I a n k i m news
  | 0, i, m, news, _ => RangeRest.zero fun h tk F _ => done m h tk (hL ▸ F)
  | k + 1, i, m, news, J => by
    refine RangeRest.succ fun t h tk F N => ?_
    obtain ⟨W, I', ys, ns, kk, tkk, c1, c2, u, h1, h2, rfl, hI, hl, k0, k1, o1, o2⟩ := J
    subst hL
    exact wpAny_mono (turn _ _ _ _ W I' ys ns kk tkk c1 c2 u (by rw [if_neg nw]; exact h1) (by rw [if_neg nb]; exact h2) hI hl k0 k1 o1 o2 F N) (fun f s₂ h => unr_mono (fun m n J => lap_inv (by assumption) rfl nw nb turn done k (i + 1) m n J) h) fun _ _ e => e
theorem lap_start {prog : Program} {w : World} {A : Around} {E : Value → Shared → Prop} {s : Shared} {env : Env} {h₀ : Heap} {x : Str} {body : List Stmt} {Q : Flow → Shared → Prop} {I : Addr} {a : Int} {n k i : Nat} {m : Str → Option Value} {news : List (Addr × Obj)} (p : Int)
    {W I' : Addr} {ys : List Value} {ns : List Int} {kk : Int} {tk : Tok} {c1 c2 : Nat} {u : Tok} (hw : m (Str.ofString "well") = some (.ref W)) (hb : m (Str.ofString "bits") = some (.int p u))
    (h1 : (W, listOf #[.ref I', .int kk tk] c1) ∈ news) (h2 : (I', listOf ys.toArray c2) ∈ news) (hI : IntsAre ys ns) (hl : ys.length ≤ 100) (k0 : 0 ≤ kk) (k1 : kk ≤ 65536) (o1 : @LT.lt Nat _ I' W) (o2 : @LT.lt Nat _ W I)
    (rest : ∀ news', JL p I m news' → RangeRest prog w A E h₀ env x body Q s I a n (k + 1) i m news') : RangeRest prog w A E h₀ env x body Q s I a n (k + 1) i m news := by
  have sub : ∀ p ∈ [(W, listOf #[.ref I', .int kk tk] c1), (I', listOf ys.toArray c2)], p ∈ news := fun p hp => by
    rcases List.mem_cons.mp hp with rfl | hp
    · exact h1
    · rcases List.mem_cons.mp hp with rfl | hp
      · exact h2
      · exact nomatch hp
  have J : JL p I m [(W, listOf #[.ref I', .int kk tk] c1), (I', listOf ys.toArray c2)] := ⟨W, I', ys, ns, kk, tk, c1, c2, u, hw, hb, rfl, hI, hl, k0, k1, o1, o2⟩
  intro t h tk' F N
  refine rest _ J t h tk' F fun q hq => ?_
  rcases List.mem_cons.mp hq with rfl | hq
  · exact N _ (.head _)
  · exact N _ (.tail _ (sub q hq))

/-- between the statements of a turn -/
def TMid (w : World) (h₀ : Heap) (L : Addr) (p : Int) (u : Tok) (I W I' : Addr) (it : Obj) (s s' : Shared) : Prop :=
  ∃ (x1 dx1 x2 dx2 x3 dx3 : Addr) (m1 e1 m2 e2 m3 e3 : Int) (ta1 ta2 ta3 : TK) (ys : List Value) (ns : List Int) (k : Int) (tk : Tok) (c1 c2 : Nat) (m : Str → Option Value) (h' : Heap) (tk' : Nat), s' = { s with heap := h', toks := tk' } ∧
    m (Str.ofString "well") = some (.ref W) ∧ m (Str.ofString "bits") = some (.int p u) ∧ m (Str.ofString "x") = some (.ref x1) ∧ m (Str.ofString "y") = some (.ref x2) ∧ m (Str.ofString "z") = some (.ref x3) ∧ Fr h₀ L h' m ∧
    News h₀ L h' [(I, it), (W, listOf #[.ref I', .int k tk] c1), (I', listOf ys.toArray c2), (x3, instObj 108 dx3), (dx3, RD w m3 e3 ta3), (x2, instObj 108 dx2), (dx2, RD w m2 e2 ta2), (x1, instObj 108 dx1), (dx1, RD w m1 e1 ta1)] ∧
    FLt p m1 e1 ∧ FL p m2 e2 ∧ FL p m3 e3 ∧ IntsAre ys ns ∧ ys.length ≤ 100 ∧ 0 ≤ k ∧ k ≤ 65536 ∧ (@LT.lt Nat _ W dx1 ∧ @LT.lt Nat _ W x1 ∧ @LT.lt Nat _ W dx2 ∧ @LT.lt Nat _ W x2 ∧ @LT.lt Nat _ W dx3 ∧ @LT.lt Nat _ W x3)
theorem tmid {Q : Flow → Shared → Prop} {w : World} {h₀ h' : Heap} {L : Addr} {p : Int} {u : Tok} {I W I' x1 dx1 x2 dx2 x3 dx3 : Addr} {it : Obj} {s : Shared} {m1 e1 m2 e2 m3 e3 : Int} {ta1 ta2 ta3 : TK} {ys : List Value} {ns : List Int} {k : Int} {tk : Tok} {c1 c2 : Nat} {m : Str → Option Value} {tk' : Nat} {nw : List (Addr × Obj)}
    (hQ : ∀ s', TMid w h₀ L p u I W I' it s s' → Q .next s') (F : Fr h₀ L h' m) (N : News h₀ L h' nw) (n1 : m (Str.ofString "well") = some (.ref W)) (n2 : m (Str.ofString "bits") = some (.int p u)) (n3 : m (Str.ofString "x") = some (.ref x1)) (n4 : m (Str.ofString "y") = some (.ref x2)) (n5 : m (Str.ofString "z") = some (.ref x3))
    (h1 : (x3, instObj 108 dx3) ∈ nw) (h2 : (dx3, RD w m3 e3 ta3) ∈ nw) (h3 : (x2, instObj 108 dx2) ∈ nw) (h4 : (dx2, RD w m2 e2 ta2) ∈ nw) (h5 : (x1, instObj 108 dx1) ∈ nw) (h6 : (dx1, RD w m1 e1 ta1) ∈ nw) (h7 : (I, it) ∈ nw) (h8 : (W, listOf #[.ref I', .int k tk] c1) ∈ nw) (h9 : (I', listOf ys.toArray c2) ∈ nw)
    (f1 : FLt p m1 e1) (f2 : FL p m2 e2) (f3 : FL p m3 e3) (hI : IntsAre ys ns) (hl : ys.length ≤ 100) (k0 : 0 ≤ k) (k1 : k ≤ 65536) (o : @LT.lt Nat _ W dx1 ∧ @LT.lt Nat _ W x1 ∧ @LT.lt Nat _ W dx2 ∧ @LT.lt Nat _ W x2 ∧ @LT.lt Nat _ W dx3 ∧ @LT.lt Nat _ W x3) :
    Q .next { s with heap := h', toks := tk' } := by
  refine hQ _ ⟨x1, dx1, x2, dx2, x3, dx3, m1, e1, m2, e2, m3, e3, ta1, ta2, ta3, ys, ns, k, tk, c1, c2, m, h', tk', rfl, n1, n2, n3, n4, n5, F, fun q hq => N q ?_, f1, f2, f3, hI, hl, k0, k1, o⟩
  exact sub_cons h7 (sub_cons h8 (sub_cons h9 (sub_cons h1 (sub_cons h2 (sub_cons h3 (sub_cons h4 (sub_cons h5 (sub_cons h6 sub_nil)))))))) q hq
theorem tmid_elim {w : World} {h₀ : Heap} {L : Addr} {p : Int} {u : Tok} {I W I' : Addr} {it : Obj} {s : Shared} {R : Shared → Prop}
    (f : ∀ (x1 dx1 x2 dx2 x3 dx3 : Addr) (m1 e1 m2 e2 m3 e3 : Int) (ta1 ta2 ta3 : TK) (ys : List Value) (ns : List Int) (k : Int) (tk : Tok) (c1 c2 : Nat) (m : Str → Option Value) (h' : Heap) (tk' : Nat),
    m (Str.ofString "well") = some (.ref W) → m (Str.ofString "bits") = some (.int p u) → m (Str.ofString "x") = some (.ref x1) → m (Str.ofString "y") = some (.ref x2) → m (Str.ofString "z") = some (.ref x3) → Fr h₀ L h' m →
    News h₀ L h' [(I, it), (W, listOf #[.ref I', .int k tk] c1), (I', listOf ys.toArray c2), (x3, instObj 108 dx3), (dx3, RD w m3 e3 ta3), (x2, instObj 108 dx2), (dx2, RD w m2 e2 ta2), (x1, instObj 108 dx1), (dx1, RD w m1 e1 ta1)] →
    FLt p m1 e1 → FL p m2 e2 → FL p m3 e3 → IntsAre ys ns → ys.length ≤ 100 → 0 ≤ k → k ≤ 65536 → @LT.lt Nat _ W dx1 → @LT.lt Nat _ W x1 → @LT.lt Nat _ W dx2 → @LT.lt Nat _ W x2 → @LT.lt Nat _ W dx3 → @LT.lt Nat _ W x3 → R { s with heap := h', toks := tk' }) : ∀ s', TMid w h₀ L p u I W I' it s s' → R s' := by
  rintro _ ⟨x1, dx1, x2, dx2, x3, dx3, m1, e1, m2, e2, m3, e3, ta1, ta2, ta3, ys, ns, k, tk, c1, c2, mm, hh, tkk, rfl, hmw, hmb, hmx, hmy, hmz, F, N, f1, f2, f3, hI, hl, hk0, hk1, o3, o4, o5, o6, o7, o8⟩
  exact f x1 dx1 x2 dx2 x3 dx3 m1 e1 m2 e2 m3 e3 ta1 ta2 ta3 ys ns k tk c1 c2 mm hh tkk hmw hmb hmx hmy hmz F N f1 f2 f3 hI hl hk0 hk1 o3 o4 o5 o6 o7 o8
theorem turn_out {w : World} {h₀ h' : Heap} {L : Addr} {p : Int} {u : Tok} {I W I' : Addr} {z1 z2 : Int} {s : Shared} {ys : List Value} {ns : List Int} {k : Int} {tk : Tok} {c1 c2 : Nat} {m : Str → Option Value} {tk' : Nat} {nw : List (Addr × Obj)}
    (F : Fr h₀ L h' m) (N : News h₀ L h' nw) (n1 : m (Str.ofString "well") = some (.ref W)) (n2 : m (Str.ofString "bits") = some (.int p u)) (h7 : (I, itR z1 z2) ∈ nw) (h8 : (W, listOf #[.ref I', .int k tk] c1) ∈ nw) (h9 : (I', listOf ys.toArray c2) ∈ nw)
    (hI : IntsAre ys ns) (hl : ys.length ≤ 100) (k0 : 0 ≤ k) (k1 : k ≤ 65536) (o1 : @LT.lt Nat _ I' W) (o2 : @LT.lt Nat _ W I) : UnrEnd h₀ L s I (itR z1 z2) (JL p I) { s with heap := h', toks := tk' } := by
  refine ⟨h', tk', m, [(W, listOf #[.ref I', .int k tk] c1), (I', listOf ys.toArray c2)], rfl, F, fun q hq => N q ?_, fun q hq => ?_, ⟨W, I', ys, ns, k, tk, c1, c2, u, n1, n2, rfl, hI, hl, k0, k1, o1, o2⟩⟩
  · simp only [List.mem_cons, List.mem_nil_iff, or_false] at hq
    rcases hq with rfl | rfl | rfl <;> assumption
  · simp only [List.mem_cons, List.mem_nil_iff, or_false] at hq
    rcases hq with rfl | rfl
    · exact Nat.ne_of_lt o2
    · exact Nat.ne_of_lt (Nat.lt_trans o1 o2)

theorem cut_turn {prog : Program} {w : World} {A : Around} {E : Value → Shared → Prop} {s : Shared} {env : Env} {h₀ h : Heap} {L : Addr} {m : Str → Option Value} {st : Stmt} {rest : List Stmt} {Q : Flow → Shared → Prop} (p : Int) (u : Tok) (W I' : Addr) {I : Addr} {it : Obj} {nw : List (Addr × Obj)} (_ : Fr h₀ L h m) (_ : News h₀ L h ((I, it) :: nw))
    (h1 : ∀ Q' : Flow → Shared → Prop, (∀ s', TMid w h₀ L p u I W I' it s s' → Q' .next s') → wpAny (model prog w) A (exec st env) Q' E s) (h2 : ∀ s', TMid w h₀ L p u I W I' it s s' → wpAny (model prog w) A (execs rest env) Q E s') : wpAny (model prog w) A (execs (st :: rest) env) Q E s := cut_stmt _ h1 h2
local macro_rules | `(tactic| ktr_unf) => `(tactic| with_reducible refine' law_drawn_spec _ _ _ _ _)
local macro_rules | `(tactic| ktr_unf) => `(tactic| with_reducible refine' law_real_spec _ _ _ _ _)
local macro_rules | `(tactic| ktr_unf) => `(tactic| with_reducible refine' law_is_ordered_spec _ _ _ _ _ _ _ _ _ _ _ _ _ _ _ _ _)
local macro_rules | `(tactic| ktr_unf) => `(tactic| with_reducible refine' law_is_even_spec _ _ _ _ _ _ _ _ _ _ _ _)
local macro_rules | `(tactic| ktr_unf) => `(tactic| with_reducible refine' law_is_exact_spec _ _ _ _ _ _ _ _ _ _ _ _)
local macro_rules | `(tactic| tb_rel) => `(tactic| first | exact RestOf.nil | (refine' RestOf.isW ?zkd; (case zkd => tb_rel)) | (refine' RestOf.isI ?zke; (case zke => tb_rel)) | (refine' RestOf.keep ?zka ?zkb ?zkc; (case zkc => tb_rel); (case zka => k_ne); (case zkb => k_ne)))
local macro_rules | `(tactic| ktr_rel) => `(tactic| first | ((with_reducible show WellAt _ _ _ _); (refine' well_at ?w1 ?w2 ?w3 ?w4 ?w5 ?w6 ?w7; (case w1 => k_mem); (case w2 => k_mem); (case w3 => assumption); (case w4 => first | assumption | omega); (case w5 => first | assumption | omega); (case w6 => first | assumption | omega); (case w7 => (refine' RestOf.spec ?wn ?wr; (case wr => tb_rel); (case wn => first | assumption | k_ne))))) | ((with_reducible show FL _ _ _); first | assumption | exact FLt.fl (by assumption)) | ((with_reducible show srOk _ _ _); exact redraw_sr (by assumption) (by assumption) (by assumption) (by assumption) (by assumption)) | ((with_reducible show Builtin.Int.intBits _ ≤ _); first | exact bits2x | exact bits9x))
local macro_rules | `(tactic| walk_at "eval Name") => `(tactic| (k_here; k_dflt (refine' nameX_L ?F ?hv ?_ ?hk ?hx ?hd; (case F => k_asm); (case hv => assumption); (case hk => exact rfl); (case hx => exact rfl); (case hd => decide))))
local macro_rules | `(tactic| walk_at "RangeRest") => `(tactic| (k_here; refine hold_out ?_))
local macro_rules | `(tactic| k_qdec) => `(tactic| kernel_rfl)
local macro_rules | `(tactic| walk_at "UnrEnd") => `(tactic| (k_here; refine hold_out ?_))
theorem main : PySem.Challenge.rw_pq1015_01.Holds := by
  refine hd rfl rfl rfl ?_
  k_go0
  all_goals try k_fold
  k_steps
  refine' hold_in (lap_start _ ?zzw ?zzb ?zz1 ?zz2 ?zzI ?zzl ?zzk ?zzm ?zzo ?zzp ?_)
  case zzw => exact rfl
  case zzb => exact rfl
  case zz1 => k_mem
  case zz2 => k_mem
  case zzI => assumption
  case zzl => refine Nat.le_trans (Nat.le_of_eq (by assumption)) ?_; simp only [List.length_map, List.length_take]; omega
  case zzk => omega
  case zzm => omega
  case zzo => omega
  case zzp => omega
  intro news' J
  obtain ⟨p, hp1, hp2, J⟩ : ∃ p, 2 ≤ p ∧ p ≤ 9 ∧ JL p _ _ news' := ⟨_, bits_lo _, bits_hi _, J⟩
  refine' lap_inv ?zzF ?zzL (by decide) (by decide) ?zzturn ?zzdone _ _ _ _ J
  case zzF => assumption
  case zzL => exact rfl
  case zzdone =>
    intro m h tk F
    k_steps
  case zzturn =>
    intro s1 m z1 z2 W I' ys ns k tk c1 c2 u hmw hmb hI hl hk0 hk1 o1 o2 F N
    refine cut_turn p u W I' F N ?_ ?_
    focus
      intro Q9 hQ9
      k_steps
      (refine' tmid hQ9 ?zFa ?zNa ?z1a ?z2a ?z3a ?z4a ?z5a ?h1a ?h2a ?h3a ?h4a ?h5a ?h6a ?h7a ?h8a ?h9a ?f1a ?f2a ?f3a ?zIa ?zla ?zka ?zma ?zoa; (case zFa => k_asm); (case zNa => k_asm); (case z1a => exact hmw); (case z2a => exact hmb); (case z3a => exact rfl); (case z4a => exact rfl); (case z5a => exact rfl); (case h1a => k_mem); (case h2a => k_mem); (case h3a => k_mem); (case h4a => k_mem); (case h5a => k_mem); (case h6a => k_mem); (case h7a => k_mem); (case h8a => k_mem); (case h9a => k_mem); (case f1a => assumption); (case f2a => exact FLt.fl (by assumption)); (case f3a => first | assumption | exact FLt.fl (by assumption)); (case zIa => assumption); (case zla => assumption); (case zka => assumption); (case zma => assumption); (case zoa => exact ⟨by omega, by omega, by omega, by omega, by omega, by omega⟩))
    clear F N hmw hmb hI hl hk0 hk1
    clear ys ns k tk c1 c2 m
    refine tmid_elim ?_
    intro x1 dx1 x2 dx2 x3 dx3 m1 e1 m2 e2 m3 e3 ta1 ta2 ta3 ys ns k tk c1 c2 mm hh tkk hmw hmb hmx hmy hmz F N f1 f2 f3 hI hl hk0 hk1 o3 o4 o5 o6 o7 o8
    refine cut_turn p u W I' F N ?_ ?_
    focus
      intro Q9 hQ9
      k_steps
      (refine' tmid hQ9 ?zFb ?zNb ?z1b ?z2b ?z3b ?z4b ?z5b ?h1b ?h2b ?h3b ?h4b ?h5b ?h6b ?h7b ?h8b ?h9b ?f1b ?f2b ?f3b ?zIb ?zlb ?zkb ?zmb ?zob; (case zFb => k_asm); (case zNb => k_asm); (case z1b => exact hmw); (case z2b => exact hmb); (case z3b => exact hmx); (case z4b => exact rfl); (case z5b => exact hmz); (case h1b => k_mem); (case h2b => k_mem); (case h3b => k_mem); (case h4b => k_mem); (case h5b => k_mem); (case h6b => k_mem); (case h7b => k_mem); (case h8b => k_mem); (case h9b => k_mem); (case f1b => assumption); (case f2b => exact redraw_fl hp1 hp2 f1 (by assumption) (by assumption)); (case f3b => first | assumption | exact FLt.fl (by assumption)); (case zIb => assumption); (case zlb => assumption); (case zkb => assumption); (case zmb => assumption); (case zob => exact ⟨by omega, by omega, by omega, by omega, by omega, by omega⟩))
      (refine' tmid hQ9 ?zFc ?zNc ?z1c ?z2c ?z3c ?z4c ?z5c ?h1c ?h2c ?h3c ?h4c ?h5c ?h6c ?h7c ?h8c ?h9c ?f1c ?f2c ?f3c ?zIc ?zlc ?zkc ?zmc ?zoc; (case zFc => k_asm); (case zNc => k_asm); (case z1c => exact hmw); (case z2c => exact hmb); (case z3c => exact hmx); (case z4c => exact hmy); (case z5c => exact hmz); (case h1c => k_mem); (case h2c => k_mem); (case h3c => k_mem); (case h4c => k_mem); (case h5c => k_mem); (case h6c => k_mem); (case h7c => k_mem); (case h8c => k_mem); (case h9c => k_mem); (case f1c => assumption); (case f2c => exact f2); (case f3c => first | assumption | exact FLt.fl (by assumption)); (case zIc => assumption); (case zlc => assumption); (case zkc => assumption); (case zmc => assumption); (case zoc => exact ⟨by omega, by omega, by omega, by omega, by omega, by omega⟩))
    clear F N hmw hmb hmx hmy hmz hI hl hk0 hk1 f1 f2 f3 o3 o4 o5 o6 o7 o8
    clear x1 dx1 x2 dx2 x3 dx3 m1 e1 m2 e2 m3 e3 ta1 ta2 ta3 ys ns k tk c1 c2 mm
    refine tmid_elim ?_
    intro x1 dx1 x2 dx2 x3 dx3 m1 e1 m2 e2 m3 e3 ta1 ta2 ta3 ys ns k tk c1 c2 mm hh tkk hmw hmb hmx hmy hmz F N f1 f2 f3 hI hl hk0 hk1 o3 o4 o5 o6 o7 o8
    have f1' := f1.fl
    k_steps
    (refine' hold_in (turn_out ?yF ?yN ?y1 ?y2 ?y3 ?y4 ?y5 ?yI ?yl ?yk ?ym o1 o2); (case yF => k_asm); (case yN => k_asm); (case y1 => exact hmw); (case y2 => exact hmb); (case y3 => k_mem); (case y4 => k_mem); (case y5 => k_mem); (case yI => assumption); (case yl => assumption); (case yk => assumption); (case ym => assumption))
    all_goals assumption
end
end Mine
set_option maxRecDepth 100000 in
set_option maxHeartbeats 8000000 in
theorem PySem.Challenge.cw_pq1015_01_holds : PySem.Challenge.rw_pq1015_01.Holds := by
  exact Mine.main

import PyProof.Rows.All
import Wide.All
import OpenK.AllK
import Wide.FinOn
import PySem.Challenge.RW_nt0015_01
open PySem PySem.W PyProof.Rows
set_option Elab.async false
set_option maxRecDepth 100000
set_option maxHeartbeats 8000000
set_option linter.unusedVariables false
set_option linter.unusedSectionVars false
local macro_rules | `(tactic| omega) => `(tactic| first | lia | omega (config := {}))
noncomputable section

-- HdN
namespace Mine
noncomputable abbrev PW := PySem.Challenge.pw_nt0015_01
noncomputable def topAt (i : Nat) : Stmt := (PySem.Challenge.pw_nt0015_01.main.body).getD i (.Pass default)
noncomputable def bodyOf : Stmt → List Stmt
  | .FunctionDef _ _ b .. => b
  | _ => []
noncomputable def scopeOf : Stmt → Scope
  | .FunctionDef _ _ _ _ _ _ s .. => s
  | _ => default
noncomputable def paramsOf : Stmt → Arguments
  | .FunctionDef _ p _ .. => p
  | _ => ⟨[], [], none, [], [], none, []⟩
/-- a def of a class's body -/
noncomputable def inCls (i j : Nat) : Stmt := match topAt i with
  | .ClassDef _ _ _ b .. => b.getD j (.Pass default)
  | _ => .Pass default
noncomputable def o43 (P : Params) : Obj := { cls := .type "tuple", data := .seq #[] }
noncomputable def o44 (P : Params) : Obj := { cls := .none, data := .fields #[] }
noncomputable def o45 (P : Params) : Obj := { cls := .type "code", data := .fields #[.str (.ofString "<module>") 182, .str (.ofString "<module>") 183, .str (.ofString "/claim/cut.py") 184, .int 1 0, .int 0 0, .int 0 0, .int 0 0, .int 0 0, .ref 11, .bool false, .int 181 0, .ref 12, .none, .none, .none, .none, .int 185 0, .int 1 0, .str (.ofString "/claim/cut.py") 186] }
noncomputable def o46 (P : Params) : Obj := { cls := .type "frame", slots := #[some (.ref 13), some (.ref 3), some (.ref 3), none, some (.str (.ofString "__main__") 164), none, some (.ref 0)] }
noncomputable def o49 (P : Params) : Obj := { cls := .type "dict", data := .dict #[{ hash := PyData.keyHash P (.ofString "__name__"), key := .str (.ofString "__name__") 165, val := .str (.ofString "unicore.ranges") 209 }, { hash := PyData.keyHash P (.ofString "__doc__"), key := .str (.ofString "__doc__") 166, val := .none }, { hash := PyData.keyHash P (.ofString "__package__"), key := .str (.ofString "__package__") 167, val := .none }, { hash := PyData.keyHash P (.ofString "__loader__"), key := .str (.ofString "__loader__") 168, val := .builtin "__main__.__loader__#opaque" }, { hash := PyData.keyHash P (.ofString "__spec__"), key := .str (.ofString "__spec__") 169, val := .none }, { hash := PyData.keyHash P (.ofString "__annotations__"), key := .str (.ofString "__annotations__") 170, val := .ref 6 }, { hash := PyData.keyHash P (.ofString "__builtins__"), key := .str (.ofString "__builtins__") 171, val := .ref 4 }, { hash := PyData.keyHash P (.ofString "__file__"), key := .str (.ofString "__file__") 173, val := .str (.ofString "/claim/cut.py") 172 }, { hash := PyData.keyHash P (.ofString "__cached__"), key := .str (.ofString "__cached__") 174, val := .none }, { hash := PyData.keyHash P (.ofString "_wall"), key := .str (.ofString "_wall") 193, val := .ref 21 }, { hash := PyData.keyHash P (.ofString "MAX_CODE"), key := .str (.ofString "MAX_CODE") 197, val := .int 1114111 196 }, { hash := PyData.keyHash P (.ofString "place_by_half"), key := .str (.ofString "place_by_half") 208, val := .ref 28 }, { hash := PyData.keyHash P (.ofString "RANGE_END"), key := .str (.ofString "RANGE_END") 213, val := .int 1114112 212 }, { hash := PyData.keyHash P (.ofString "range_first_of"), key := .str (.ofString "range_first_of") 220, val := .ref 35 }, { hash := PyData.keyHash P (.ofString "range_bounds"), key := .str (.ofString "range_bounds") 226, val := .ref 40 }, { hash := PyData.keyHash P (.ofString "range_is_wanted"), key := .str (.ofString "range_is_wanted") 235, val := .ref 47 }, { hash := PyData.keyHash P (.ofString "range_merged"), key := .str (.ofString "range_merged") 250, val := .ref 54 }] 17 }
noncomputable def o50 (P : Params) : Obj := { cls := .none, data := .fields #[.int 1 0, .int 0 0, .ref 20, .int 6 0, .int 0 0, .ref 27, .int 18 0, .int 0 0, .ref 34, .int 20 0, .int 0 0, .ref 39, .int 28 0, .int 0 0, .ref 46, .int 36 0, .int 0 0, .ref 53] }
noncomputable def o51 (P : Params) : Obj := { cls := .type "tuple", data := .seq #[] }
noncomputable def o52 (P : Params) : Obj := { cls := .none, data := .fields #[] }
noncomputable def o53 (P : Params) : Obj := { cls := .type "tuple", data := .seq #[.str (.ofString "k") 190] }
noncomputable def o54 (P : Params) : Obj := { cls := .type "tuple", data := .seq #[] }
noncomputable def o55 (P : Params) : Obj := { cls := .none, data := .func { name := .ofString "_wall", qualname := .ofString "_wall", params := paramsOf (topAt 0), body := .stmts (bodyOf (topAt 0)), scope := scopeOf (topAt 0), globals := 0, closure := [], defaults := .none, kwdefaults := .none } }
noncomputable def o56 (P : Params) : Obj := { cls := .type "code", data := .fields #[.str (.ofString "_wall") 187, .str (.ofString "_wall") 188, .str (.ofString "/claim/cut.py") 189, .int 1 0, .int 1 0, .int 0 0, .int 0 0, .int 3 0, .ref 15, .bool true, .int 181 0, .ref 16, .none, .ref 17, .ref 18, .ref 19, .int 191 0, .int 1 0, .str (.ofString "/claim/cut.py") 192] }
noncomputable def o57 (P : Params) : Obj := { cls := .type "function", data := .func { name := .ofString "_wall", qualname := .ofString "_wall", params := paramsOf (topAt 0), body := .stmts (bodyOf (topAt 0)), scope := scopeOf (topAt 0), globals := 3, closure := [], defaults := .none, kwdefaults := .none, pyModule := .str (.ofString "__main__") 164, code := .ref 20 } }
noncomputable def o58 (P : Params) : Obj := { cls := .type "tuple", data := .seq #[] }
noncomputable def o59 (P : Params) : Obj := { cls := .none, data := .fields #[] }
noncomputable def o60 (P : Params) : Obj := { cls := .type "tuple", data := .seq #[.str (.ofString "firsts") 201, .str (.ofString "number") 202, .str (.ofString "low") 203, .str (.ofString "high") 204, .str (.ofString "middle") 205] }
noncomputable def o61 (P : Params) : Obj := { cls := .type "tuple", data := .seq #[] }
noncomputable def o62 (P : Params) : Obj := { cls := .none, data := .func { name := .ofString "place_by_half", qualname := .ofString "place_by_half", params := paramsOf (topAt 3), body := .stmts (bodyOf (topAt 3)), scope := scopeOf (topAt 3), globals := 0, closure := [], defaults := .none, kwdefaults := .none } }
noncomputable def o63 (P : Params) : Obj := { cls := .type "code", data := .fields #[.str (.ofString "place_by_half") 198, .str (.ofString "place_by_half") 199, .str (.ofString "/claim/cut.py") 200, .int 6 0, .int 2 0, .int 0 0, .int 0 0, .int 3 0, .ref 22, .bool true, .int 181 0, .ref 23, .none, .ref 24, .ref 25, .ref 26, .int 206 0, .int 6 0, .str (.ofString "/claim/cut.py") 207] }
noncomputable def o64 (P : Params) : Obj := { cls := .type "function", data := .func { name := .ofString "place_by_half", qualname := .ofString "place_by_half", params := paramsOf (topAt 3), body := .stmts (bodyOf (topAt 3)), scope := scopeOf (topAt 3), globals := 3, closure := [], defaults := .none, kwdefaults := .none, pyModule := .str (.ofString "unicore.base") 194, code := .ref 27 } }
noncomputable def o65 (P : Params) : Obj := { cls := .type "tuple", data := .seq #[] }
noncomputable def o66 (P : Params) : Obj := { cls := .none, data := .fields #[] }
noncomputable def o67 (P : Params) : Obj := { cls := .type "tuple", data := .seq #[.str (.ofString "pair") 217] }
noncomputable def o68 (P : Params) : Obj := { cls := .type "tuple", data := .seq #[] }
noncomputable def o69 (P : Params) : Obj := { cls := .none, data := .func { name := .ofString "range_first_of", qualname := .ofString "range_first_of", params := paramsOf (topAt 6), body := .stmts (bodyOf (topAt 6)), scope := scopeOf (topAt 6), globals := 0, closure := [], defaults := .none, kwdefaults := .none } }
noncomputable def o70 (P : Params) : Obj := { cls := .type "code", data := .fields #[.str (.ofString "range_first_of") 214, .str (.ofString "range_first_of") 215, .str (.ofString "/claim/cut.py") 216, .int 18 0, .int 1 0, .int 0 0, .int 0 0, .int 3 0, .ref 29, .bool true, .int 181 0, .ref 30, .none, .ref 31, .ref 32, .ref 33, .int 218 0, .int 18 0, .str (.ofString "/claim/cut.py") 219] }
noncomputable def o71 (P : Params) : Obj := { cls := .type "function", data := .func { name := .ofString "range_first_of", qualname := .ofString "range_first_of", params := paramsOf (topAt 6), body := .stmts (bodyOf (topAt 6)), scope := scopeOf (topAt 6), globals := 3, closure := [], defaults := .none, kwdefaults := .none, pyModule := .str (.ofString "unicore.ranges") 209, code := .ref 34 } }
noncomputable def o72 (P : Params) : Obj := { cls := .type "tuple", data := .seq #[] }
noncomputable def o73 (P : Params) : Obj := { cls := .none, data := .fields #[] }
noncomputable def o74 (P : Params) : Obj := { cls := .none, data := .func { name := .ofString "range_bounds", qualname := .ofString "range_bounds", params := paramsOf (topAt 7), body := .stmts (bodyOf (topAt 7)), scope := scopeOf (topAt 7), globals := 0, closure := [], defaults := .none, kwdefaults := .none } }
noncomputable def o75 (P : Params) : Obj := { cls := .type "code", data := .fields #[.str (.ofString "range_bounds") 221, .str (.ofString "range_bounds") 222, .str (.ofString "/claim/cut.py") 223, .int 20 0, .int 1 0, .int 0 0, .int 0 0, .int 3 0, .ref 36, .bool true, .int 181 0, .ref 37, .none, .none, .none, .ref 38, .int 224 0, .int 20 0, .str (.ofString "/claim/cut.py") 225] }
noncomputable def o76 (P : Params) : Obj := { cls := .type "function", data := .func { name := .ofString "range_bounds", qualname := .ofString "range_bounds", params := paramsOf (topAt 7), body := .stmts (bodyOf (topAt 7)), scope := scopeOf (topAt 7), globals := 3, closure := [], defaults := .none, kwdefaults := .none, pyModule := .str (.ofString "unicore.ranges") 209, code := .ref 39 } }
noncomputable def o77 (P : Params) : Obj := { cls := .type "tuple", data := .seq #[] }
noncomputable def o78 (P : Params) : Obj := { cls := .none, data := .fields #[] }
noncomputable def o79 (P : Params) : Obj := { cls := .type "tuple", data := .seq #[.str (.ofString "way") 230, .str (.ofString "is_near") 231, .str (.ofString "is_far") 232] }
noncomputable def o80 (P : Params) : Obj := { cls := .type "tuple", data := .seq #[] }
noncomputable def o81 (P : Params) : Obj := { cls := .none, data := .func { name := .ofString "range_is_wanted", qualname := .ofString "range_is_wanted", params := paramsOf (topAt 8), body := .stmts (bodyOf (topAt 8)), scope := scopeOf (topAt 8), globals := 0, closure := [], defaults := .none, kwdefaults := .none } }
noncomputable def o82 (P : Params) : Obj := { cls := .type "code", data := .fields #[.str (.ofString "range_is_wanted") 227, .str (.ofString "range_is_wanted") 228, .str (.ofString "/claim/cut.py") 229, .int 28 0, .int 3 0, .int 0 0, .int 0 0, .int 3 0, .ref 41, .bool true, .int 181 0, .ref 42, .none, .ref 43, .ref 44, .ref 45, .int 233 0, .int 28 0, .str (.ofString "/claim/cut.py") 234] }
noncomputable def o83 (P : Params) : Obj := { cls := .type "function", data := .func { name := .ofString "range_is_wanted", qualname := .ofString "range_is_wanted", params := paramsOf (topAt 8), body := .stmts (bodyOf (topAt 8)), scope := scopeOf (topAt 8), globals := 3, closure := [], defaults := .none, kwdefaults := .none, pyModule := .str (.ofString "unicore.ranges") 209, code := .ref 46 } }
noncomputable def o84 (P : Params) : Obj := { cls := .type "tuple", data := .seq #[] }
noncomputable def o85 (P : Params) : Obj := { cls := .none, data := .fields #[] }
noncomputable def o86 (P : Params) : Obj := { cls := .type "tuple", data := .seq #[.str (.ofString "near") 239, .str (.ofString "far") 240, .str (.ofString "way") 241, .str (.ofString "found") 242, .str (.ofString "at") 243, .str (.ofString "beside") 244, .str (.ofString "is_in") 245, .str (.ofString "bound") 246, .str (.ofString "is_next") 247] }
noncomputable def o87 (P : Params) : Obj := { cls := .type "tuple", data := .seq #[] }
noncomputable def o88 (P : Params) : Obj := { cls := .none, data := .func { name := .ofString "range_merged", qualname := .ofString "range_merged", params := paramsOf (topAt 9), body := .stmts (bodyOf (topAt 9)), scope := scopeOf (topAt 9), globals := 0, closure := [], defaults := .none, kwdefaults := .none } }
noncomputable def o89 (P : Params) : Obj := { cls := .type "code", data := .fields #[.str (.ofString "range_merged") 236, .str (.ofString "range_merged") 237, .str (.ofString "/claim/cut.py") 238, .int 36 0, .int 3 0, .int 0 0, .int 0 0, .int 3 0, .ref 48, .bool true, .int 181 0, .ref 49, .none, .ref 50, .ref 51, .ref 52, .int 248 0, .int 36 0, .str (.ofString "/claim/cut.py") 249] }
noncomputable def o90 (P : Params) : Obj := { cls := .type "function", data := .func { name := .ofString "range_merged", qualname := .ofString "range_merged", params := paramsOf (topAt 9), body := .stmts (bodyOf (topAt 9)), scope := scopeOf (topAt 9), globals := 3, closure := [], defaults := .none, kwdefaults := .none, pyModule := .str (.ofString "unicore.ranges") 209, code := .ref 53 } }
noncomputable def o91 (P : Params) : Obj := { cls := .type "dict", data := .dict #[{ hash := PyData.keyHash P (.ofString "__name__"), key := .str (.ofString "__name__") 165, val := .str (.ofString "unicore.ranges") 209 }, { hash := PyData.keyHash P (.ofString "__doc__"), key := .str (.ofString "__doc__") 166, val := .none }, { hash := PyData.keyHash P (.ofString "__package__"), key := .str (.ofString "__package__") 167, val := .none }, { hash := PyData.keyHash P (.ofString "__loader__"), key := .str (.ofString "__loader__") 168, val := .builtin "__main__.__loader__#opaque" }, { hash := PyData.keyHash P (.ofString "__spec__"), key := .str (.ofString "__spec__") 169, val := .none }, { hash := PyData.keyHash P (.ofString "__annotations__"), key := .str (.ofString "__annotations__") 170, val := .ref 6 }, { hash := PyData.keyHash P (.ofString "__builtins__"), key := .str (.ofString "__builtins__") 171, val := .ref 4 }, { hash := PyData.keyHash P (.ofString "__file__"), key := .str (.ofString "__file__") 173, val := .str (.ofString "/claim/cut.py") 172 }, { hash := PyData.keyHash P (.ofString "__cached__"), key := .str (.ofString "__cached__") 174, val := .none }, { hash := PyData.keyHash P (.ofString "_wall"), key := .str (.ofString "_wall") 193, val := .ref 21 }, { hash := PyData.keyHash P (.ofString "MAX_CODE"), key := .str (.ofString "MAX_CODE") 197, val := .int 1114111 196 }, { hash := PyData.keyHash P (.ofString "place_by_half"), key := .str (.ofString "place_by_half") 208, val := .ref 28 }, { hash := PyData.keyHash P (.ofString "RANGE_END"), key := .str (.ofString "RANGE_END") 213, val := .int 1114112 212 }, { hash := PyData.keyHash P (.ofString "range_first_of"), key := .str (.ofString "range_first_of") 220, val := .ref 35 }, { hash := PyData.keyHash P (.ofString "range_bounds"), key := .str (.ofString "range_bounds") 226, val := .ref 40 }, { hash := PyData.keyHash P (.ofString "range_is_wanted"), key := .str (.ofString "range_is_wanted") 235, val := .ref 47 }, { hash := PyData.keyHash P (.ofString "range_merged"), key := .str (.ofString "range_merged") 250, val := .ref 54 }, { hash := PyData.keyHash P (.ofString "CodeSet"), key := .str (.ofString "CodeSet") 375, val := .ref 150 }] 18 }
noncomputable def o92 (P : Params) : Obj := { cls := .none, data := .fields #[.int 1 0, .int 0 0, .ref 20, .int 6 0, .int 0 0, .ref 27, .int 18 0, .int 0 0, .ref 34, .int 20 0, .int 0 0, .ref 39, .int 28 0, .int 0 0, .ref 46, .int 36 0, .int 0 0, .ref 53, .int 52 0, .int 0 0, .ref 60] }
noncomputable def o93 (P : Params) : Obj := { cls := .type "tuple", data := .seq #[] }
noncomputable def o94 (P : Params) : Obj := { cls := .type "builtin_function_or_method", data := .fields #[.builtin "type.__prepare__", .type "type"] }
noncomputable def o95 (P : Params) : Obj := { cls := .type "dict", data := .dict #[{ hash := PyData.keyHash P (.ofString "__module__"), key := .str (.ofString "__module__") 258, val := .str (.ofString "unicore.ranges") 209 }, { hash := PyData.keyHash P (.ofString "__qualname__"), key := .str (.ofString "__qualname__") 260, val := .str (.ofString "CodeSet") 259 }, { hash := PyData.keyHash P (.ofString "__firstlineno__"), key := .str (.ofString "__firstlineno__") 262, val := .int 52 261 }, { hash := PyData.keyHash P (.ofString "__init__"), key := .str (.ofString "__init__") 270, val := .ref 69 }, { hash := PyData.keyHash P (.ofString "of"), key := .str (.ofString "of") 289, val := .ref 78 }, { hash := PyData.keyHash P (.ofString "has"), key := .str (.ofString "has") 297, val := .ref 86 }, { hash := PyData.keyHash P (.ofString "ranges"), key := .str (.ofString "ranges") 303, val := .ref 91 }, { hash := PyData.keyHash P (.ofString "size"), key := .str (.ofString "size") 310, val := .ref 98 }, { hash := PyData.keyHash P (.ofString "union"), key := .str (.ofString "union") 318, val := .ref 105 }, { hash := PyData.keyHash P (.ofString "both"), key := .str (.ofString "both") 326, val := .ref 112 }, { hash := PyData.keyHash P (.ofString "without"), key := .str (.ofString "without") 334, val := .ref 119 }, { hash := PyData.keyHash P (.ofString "opposite"), key := .str (.ofString "opposite") 341, val := .ref 126 }, { hash := PyData.keyHash P (.ofString "add"), key := .str (.ofString "add") 350, val := .ref 133 }, { hash := PyData.keyHash P (.ofString "equals"), key := .str (.ofString "equals") 358, val := .ref 140 }, { hash := PyData.keyHash P (.ofString "first_at"), key := .str (.ofString "first_at") 366, val := .ref 147 }, { hash := PyData.keyHash P (.ofString "__static_attributes__"), key := .str (.ofString "__static_attributes__") 368, val := .ref 148 }] 16 }
noncomputable def o96 (P : Params) : Obj := { cls := .type "tuple", data := .seq #[] }
noncomputable def o97 (P : Params) : Obj := { cls := .none, data := .fields #[.int 54 0, .int 4 0, .ref 68, .int 58 0, .int 4 0, .ref 75, .int 61 0, .int 4 0, .ref 85, .int 64 0, .int 4 0, .ref 90, .int 67 0, .int 4 0, .ref 97, .int 70 0, .int 4 0, .ref 104, .int 73 0, .int 4 0, .ref 111, .int 76 0, .int 4 0, .ref 118, .int 79 0, .int 4 0, .ref 125, .int 82 0, .int 4 0, .ref 132, .int 85 0, .int 4 0, .ref 139, .int 88 0, .int 4 0, .ref 146] }
noncomputable def o98 (P : Params) : Obj := { cls := .type "code", data := .fields #[.str (.ofString "CodeSet") 253, .str (.ofString "CodeSet") 254, .str (.ofString "/claim/cut.py") 255, .int 52 0, .int 0 0, .int 0 0, .int 0 0, .int 0 0, .ref 58, .bool false, .int 181 0, .ref 59, .none, .none, .none, .none, .int 256 0, .int 52 0, .str (.ofString "/claim/cut.py") 257] }
noncomputable def o99 (P : Params) : Obj := { cls := .type "frame", slots := #[some (.ref 60), some (.ref 3), some (.ref 57), none, some (.str (.ofString "unicore.ranges") 209), none, some (.ref 0)] }
noncomputable def o100 (P : Params) : Obj := { cls := .type "tuple", data := .seq #[.none] }
noncomputable def o101 (P : Params) : Obj := { cls := .type "tuple", data := .seq #[] }
noncomputable def o102 (P : Params) : Obj := { cls := .none, data := .fields #[] }
noncomputable def o103 (P : Params) : Obj := { cls := .type "tuple", data := .seq #[.str (.ofString "self") 266, .str (.ofString "bounds") 267] }
noncomputable def o104 (P : Params) : Obj := { cls := .type "tuple", data := .seq #[] }
noncomputable def o105 (P : Params) : Obj := { cls := .none, data := .func { name := .ofString "__init__", qualname := .ofString "CodeSet.__init__", params := paramsOf (inCls 10 0), body := .stmts (bodyOf (inCls 10 0)), scope := scopeOf (inCls 10 0), globals := 0, closure := [], defaults := .none, kwdefaults := .none } }
noncomputable def o106 (P : Params) : Obj := { cls := .type "code", data := .fields #[.str (.ofString "__init__") 263, .str (.ofString "CodeSet.__init__") 264, .str (.ofString "/claim/cut.py") 265, .int 54 0, .int 2 0, .int 0 0, .int 0 0, .int 3 0, .ref 63, .bool true, .int 181 0, .ref 64, .none, .ref 65, .ref 66, .ref 67, .int 268 0, .int 54 0, .str (.ofString "/claim/cut.py") 269] }
noncomputable def o107 (P : Params) : Obj := { cls := .type "function", data := .func { name := .ofString "__init__", qualname := .ofString "CodeSet.__init__", params := paramsOf (inCls 10 0), body := .stmts (bodyOf (inCls 10 0)), scope := scopeOf (inCls 10 0), globals := 3, closure := [], defaults := .ref 62, kwdefaults := .none, pyModule := .str (.ofString "unicore.ranges") 209, code := .ref 68 } }
noncomputable def o108 (P : Params) : Obj := { cls := .type "tuple", data := .seq #[] }
noncomputable def o109 (P : Params) : Obj := { cls := .none, data := .fields #[] }
noncomputable def o110 (P : Params) : Obj := { cls := .type "tuple", data := .seq #[.str (.ofString "ranges") 274] }
noncomputable def o111 (P : Params) : Obj := { cls := .type "tuple", data := .seq #[] }
noncomputable def o112 (P : Params) : Obj := { cls := .none, data := .func { name := .ofString "of", qualname := .ofString "CodeSet.of", params := paramsOf (inCls 10 1), body := .stmts (bodyOf (inCls 10 1)), scope := scopeOf (inCls 10 1), globals := 0, closure := [], defaults := .none, kwdefaults := .none } }
noncomputable def o113 (P : Params) : Obj := { cls := .type "code", data := .fields #[.str (.ofString "of") 271, .str (.ofString "CodeSet.of") 272, .str (.ofString "/claim/cut.py") 273, .int 57 0, .int 1 0, .int 0 0, .int 0 0, .int 3 0, .ref 70, .bool true, .int 181 0, .ref 71, .none, .ref 72, .ref 73, .ref 74, .int 275 0, .int 57 0, .str (.ofString "/claim/cut.py") 276] }
noncomputable def o114 (P : Params) : Obj := { cls := .type "function", data := .func { name := .ofString "of", qualname := .ofString "CodeSet.of", params := paramsOf (inCls 10 1), body := .stmts (bodyOf (inCls 10 1)), scope := scopeOf (inCls 10 1), globals := 3, closure := [], defaults := .none, kwdefaults := .none, pyModule := .str (.ofString "unicore.ranges") 209, annotations := some 79, code := .ref 75 } }
noncomputable def o115 (P : Params) : Obj := { cls := .type "dict", data := .dict #[{ hash := PyData.keyHash P (.ofString "__module__"), key := .str (.ofString "__module__") 278, val := .str (.ofString "unicore.ranges") 209 }, { hash := PyData.keyHash P (.ofString "__name__"), key := .str (.ofString "__name__") 281, val := .str (.ofString "of") 280 }, { hash := PyData.keyHash P (.ofString "__qualname__"), key := .str (.ofString "__qualname__") 284, val := .str (.ofString "CodeSet.of") 283 }, { hash := PyData.keyHash P (.ofString "__doc__"), key := .str (.ofString "__doc__") 286, val := .none }, { hash := PyData.keyHash P (.ofString "__annotations__"), key := .str (.ofString "__annotations__") 288, val := .ref 79 }] 5 }
noncomputable def o116 (P : Params) : Obj := { cls := .type "staticmethod", dict := some 77, data := .fields #[.ref 76, .bool false] }
noncomputable def o117 (P : Params) : Obj := { cls := .type "dict", data := .dict #[] }
noncomputable def o118 (P : Params) : Obj := { cls := .type "tuple", data := .seq #[] }
noncomputable def o119 (P : Params) : Obj := { cls := .none, data := .fields #[] }
noncomputable def o120 (P : Params) : Obj := { cls := .type "tuple", data := .seq #[.str (.ofString "self") 293, .str (.ofString "code") 294] }
noncomputable def o121 (P : Params) : Obj := { cls := .type "tuple", data := .seq #[] }
noncomputable def o122 (P : Params) : Obj := { cls := .none, data := .func { name := .ofString "has", qualname := .ofString "CodeSet.has", params := paramsOf (inCls 10 2), body := .stmts (bodyOf (inCls 10 2)), scope := scopeOf (inCls 10 2), globals := 0, closure := [], defaults := .none, kwdefaults := .none } }
noncomputable def o123 (P : Params) : Obj := { cls := .type "code", data := .fields #[.str (.ofString "has") 290, .str (.ofString "CodeSet.has") 291, .str (.ofString "/claim/cut.py") 292, .int 61 0, .int 2 0, .int 0 0, .int 0 0, .int 3 0, .ref 80, .bool true, .int 181 0, .ref 81, .none, .ref 82, .ref 83, .ref 84, .int 295 0, .int 61 0, .str (.ofString "/claim/cut.py") 296] }
noncomputable def o124 (P : Params) : Obj := { cls := .type "function", data := .func { name := .ofString "has", qualname := .ofString "CodeSet.has", params := paramsOf (inCls 10 2), body := .stmts (bodyOf (inCls 10 2)), scope := scopeOf (inCls 10 2), globals := 3, closure := [], defaults := .none, kwdefaults := .none, pyModule := .str (.ofString "unicore.ranges") 209, code := .ref 85 } }
noncomputable def o125 (P : Params) : Obj := { cls := .type "tuple", data := .seq #[] }
noncomputable def o126 (P : Params) : Obj := { cls := .none, data := .fields #[] }
noncomputable def o127 (P : Params) : Obj := { cls := .none, data := .func { name := .ofString "ranges", qualname := .ofString "CodeSet.ranges", params := paramsOf (inCls 10 3), body := .stmts (bodyOf (inCls 10 3)), scope := scopeOf (inCls 10 3), globals := 0, closure := [], defaults := .none, kwdefaults := .none } }
noncomputable def o128 (P : Params) : Obj := { cls := .type "code", data := .fields #[.str (.ofString "ranges") 298, .str (.ofString "CodeSet.ranges") 299, .str (.ofString "/claim/cut.py") 300, .int 64 0, .int 1 0, .int 0 0, .int 0 0, .int 3 0, .ref 87, .bool true, .int 181 0, .ref 88, .none, .none, .none, .ref 89, .int 301 0, .int 64 0, .str (.ofString "/claim/cut.py") 302] }
noncomputable def o129 (P : Params) : Obj := { cls := .type "function", data := .func { name := .ofString "ranges", qualname := .ofString "CodeSet.ranges", params := paramsOf (inCls 10 3), body := .stmts (bodyOf (inCls 10 3)), scope := scopeOf (inCls 10 3), globals := 3, closure := [], defaults := .none, kwdefaults := .none, pyModule := .str (.ofString "unicore.ranges") 209, code := .ref 90 } }
noncomputable def o130 (P : Params) : Obj := { cls := .type "tuple", data := .seq #[] }
noncomputable def o131 (P : Params) : Obj := { cls := .none, data := .fields #[] }
noncomputable def o132 (P : Params) : Obj := { cls := .type "tuple", data := .seq #[.str (.ofString "self") 307] }
noncomputable def o133 (P : Params) : Obj := { cls := .type "tuple", data := .seq #[] }
noncomputable def o134 (P : Params) : Obj := { cls := .none, data := .func { name := .ofString "size", qualname := .ofString "CodeSet.size", params := paramsOf (inCls 10 4), body := .stmts (bodyOf (inCls 10 4)), scope := scopeOf (inCls 10 4), globals := 0, closure := [], defaults := .none, kwdefaults := .none } }
noncomputable def o135 (P : Params) : Obj := { cls := .type "code", data := .fields #[.str (.ofString "size") 304, .str (.ofString "CodeSet.size") 305, .str (.ofString "/claim/cut.py") 306, .int 67 0, .int 1 0, .int 0 0, .int 0 0, .int 3 0, .ref 92, .bool true, .int 181 0, .ref 93, .none, .ref 94, .ref 95, .ref 96, .int 308 0, .int 67 0, .str (.ofString "/claim/cut.py") 309] }
noncomputable def o136 (P : Params) : Obj := { cls := .type "function", data := .func { name := .ofString "size", qualname := .ofString "CodeSet.size", params := paramsOf (inCls 10 4), body := .stmts (bodyOf (inCls 10 4)), scope := scopeOf (inCls 10 4), globals := 3, closure := [], defaults := .none, kwdefaults := .none, pyModule := .str (.ofString "unicore.ranges") 209, code := .ref 97 } }
noncomputable def o137 (P : Params) : Obj := { cls := .type "tuple", data := .seq #[] }
noncomputable def o138 (P : Params) : Obj := { cls := .none, data := .fields #[] }
noncomputable def o139 (P : Params) : Obj := { cls := .type "tuple", data := .seq #[.str (.ofString "self") 314, .str (.ofString "other") 315] }
noncomputable def o140 (P : Params) : Obj := { cls := .type "tuple", data := .seq #[] }
noncomputable def o141 (P : Params) : Obj := { cls := .none, data := .func { name := .ofString "union", qualname := .ofString "CodeSet.union", params := paramsOf (inCls 10 5), body := .stmts (bodyOf (inCls 10 5)), scope := scopeOf (inCls 10 5), globals := 0, closure := [], defaults := .none, kwdefaults := .none } }
noncomputable def o142 (P : Params) : Obj := { cls := .type "code", data := .fields #[.str (.ofString "union") 311, .str (.ofString "CodeSet.union") 312, .str (.ofString "/claim/cut.py") 313, .int 70 0, .int 2 0, .int 0 0, .int 0 0, .int 3 0, .ref 99, .bool true, .int 181 0, .ref 100, .none, .ref 101, .ref 102, .ref 103, .int 316 0, .int 70 0, .str (.ofString "/claim/cut.py") 317] }
noncomputable def o143 (P : Params) : Obj := { cls := .type "function", data := .func { name := .ofString "union", qualname := .ofString "CodeSet.union", params := paramsOf (inCls 10 5), body := .stmts (bodyOf (inCls 10 5)), scope := scopeOf (inCls 10 5), globals := 3, closure := [], defaults := .none, kwdefaults := .none, pyModule := .str (.ofString "unicore.ranges") 209, code := .ref 104 } }
noncomputable def o144 (P : Params) : Obj := { cls := .type "tuple", data := .seq #[] }
noncomputable def o145 (P : Params) : Obj := { cls := .none, data := .fields #[] }
noncomputable def o146 (P : Params) : Obj := { cls := .type "tuple", data := .seq #[.str (.ofString "self") 322, .str (.ofString "other") 323] }
noncomputable def o147 (P : Params) : Obj := { cls := .type "tuple", data := .seq #[] }
noncomputable def o148 (P : Params) : Obj := { cls := .none, data := .func { name := .ofString "both", qualname := .ofString "CodeSet.both", params := paramsOf (inCls 10 6), body := .stmts (bodyOf (inCls 10 6)), scope := scopeOf (inCls 10 6), globals := 0, closure := [], defaults := .none, kwdefaults := .none } }
noncomputable def o149 (P : Params) : Obj := { cls := .type "code", data := .fields #[.str (.ofString "both") 319, .str (.ofString "CodeSet.both") 320, .str (.ofString "/claim/cut.py") 321, .int 73 0, .int 2 0, .int 0 0, .int 0 0, .int 3 0, .ref 106, .bool true, .int 181 0, .ref 107, .none, .ref 108, .ref 109, .ref 110, .int 324 0, .int 73 0, .str (.ofString "/claim/cut.py") 325] }
noncomputable def o150 (P : Params) : Obj := { cls := .type "function", data := .func { name := .ofString "both", qualname := .ofString "CodeSet.both", params := paramsOf (inCls 10 6), body := .stmts (bodyOf (inCls 10 6)), scope := scopeOf (inCls 10 6), globals := 3, closure := [], defaults := .none, kwdefaults := .none, pyModule := .str (.ofString "unicore.ranges") 209, code := .ref 111 } }
noncomputable def o151 (P : Params) : Obj := { cls := .type "tuple", data := .seq #[] }
noncomputable def o152 (P : Params) : Obj := { cls := .none, data := .fields #[] }
noncomputable def o153 (P : Params) : Obj := { cls := .type "tuple", data := .seq #[.str (.ofString "self") 330, .str (.ofString "other") 331] }
noncomputable def o154 (P : Params) : Obj := { cls := .type "tuple", data := .seq #[] }
noncomputable def o155 (P : Params) : Obj := { cls := .none, data := .func { name := .ofString "without", qualname := .ofString "CodeSet.without", params := paramsOf (inCls 10 7), body := .stmts (bodyOf (inCls 10 7)), scope := scopeOf (inCls 10 7), globals := 0, closure := [], defaults := .none, kwdefaults := .none } }
noncomputable def o156 (P : Params) : Obj := { cls := .type "code", data := .fields #[.str (.ofString "without") 327, .str (.ofString "CodeSet.without") 328, .str (.ofString "/claim/cut.py") 329, .int 76 0, .int 2 0, .int 0 0, .int 0 0, .int 3 0, .ref 113, .bool true, .int 181 0, .ref 114, .none, .ref 115, .ref 116, .ref 117, .int 332 0, .int 76 0, .str (.ofString "/claim/cut.py") 333] }
noncomputable def o157 (P : Params) : Obj := { cls := .type "function", data := .func { name := .ofString "without", qualname := .ofString "CodeSet.without", params := paramsOf (inCls 10 7), body := .stmts (bodyOf (inCls 10 7)), scope := scopeOf (inCls 10 7), globals := 3, closure := [], defaults := .none, kwdefaults := .none, pyModule := .str (.ofString "unicore.ranges") 209, code := .ref 118 } }
noncomputable def o158 (P : Params) : Obj := { cls := .type "tuple", data := .seq #[] }
noncomputable def o159 (P : Params) : Obj := { cls := .none, data := .fields #[] }
noncomputable def o160 (P : Params) : Obj := { cls := .type "tuple", data := .seq #[.str (.ofString "self") 338] }
noncomputable def o161 (P : Params) : Obj := { cls := .type "tuple", data := .seq #[] }
noncomputable def o162 (P : Params) : Obj := { cls := .none, data := .func { name := .ofString "opposite", qualname := .ofString "CodeSet.opposite", params := paramsOf (inCls 10 8), body := .stmts (bodyOf (inCls 10 8)), scope := scopeOf (inCls 10 8), globals := 0, closure := [], defaults := .none, kwdefaults := .none } }
noncomputable def o163 (P : Params) : Obj := { cls := .type "code", data := .fields #[.str (.ofString "opposite") 335, .str (.ofString "CodeSet.opposite") 336, .str (.ofString "/claim/cut.py") 337, .int 79 0, .int 1 0, .int 0 0, .int 0 0, .int 3 0, .ref 120, .bool true, .int 181 0, .ref 121, .none, .ref 122, .ref 123, .ref 124, .int 339 0, .int 79 0, .str (.ofString "/claim/cut.py") 340] }
noncomputable def o164 (P : Params) : Obj := { cls := .type "function", data := .func { name := .ofString "opposite", qualname := .ofString "CodeSet.opposite", params := paramsOf (inCls 10 8), body := .stmts (bodyOf (inCls 10 8)), scope := scopeOf (inCls 10 8), globals := 3, closure := [], defaults := .none, kwdefaults := .none, pyModule := .str (.ofString "unicore.ranges") 209, code := .ref 125 } }
noncomputable def o165 (P : Params) : Obj := { cls := .type "tuple", data := .seq #[] }
noncomputable def o166 (P : Params) : Obj := { cls := .none, data := .fields #[] }
noncomputable def o167 (P : Params) : Obj := { cls := .type "tuple", data := .seq #[.str (.ofString "self") 345, .str (.ofString "first") 346, .str (.ofString "last") 347] }
noncomputable def o168 (P : Params) : Obj := { cls := .type "tuple", data := .seq #[] }
noncomputable def o169 (P : Params) : Obj := { cls := .none, data := .func { name := .ofString "add", qualname := .ofString "CodeSet.add", params := paramsOf (inCls 10 9), body := .stmts (bodyOf (inCls 10 9)), scope := scopeOf (inCls 10 9), globals := 0, closure := [], defaults := .none, kwdefaults := .none } }
noncomputable def o170 (P : Params) : Obj := { cls := .type "code", data := .fields #[.str (.ofString "add") 342, .str (.ofString "CodeSet.add") 343, .str (.ofString "/claim/cut.py") 344, .int 82 0, .int 3 0, .int 0 0, .int 0 0, .int 3 0, .ref 127, .bool true, .int 181 0, .ref 128, .none, .ref 129, .ref 130, .ref 131, .int 348 0, .int 82 0, .str (.ofString "/claim/cut.py") 349] }
noncomputable def o171 (P : Params) : Obj := { cls := .type "function", data := .func { name := .ofString "add", qualname := .ofString "CodeSet.add", params := paramsOf (inCls 10 9), body := .stmts (bodyOf (inCls 10 9)), scope := scopeOf (inCls 10 9), globals := 3, closure := [], defaults := .none, kwdefaults := .none, pyModule := .str (.ofString "unicore.ranges") 209, code := .ref 132 } }
noncomputable def o172 (P : Params) : Obj := { cls := .type "tuple", data := .seq #[] }
noncomputable def o173 (P : Params) : Obj := { cls := .none, data := .fields #[] }
noncomputable def o174 (P : Params) : Obj := { cls := .type "tuple", data := .seq #[.str (.ofString "self") 354, .str (.ofString "other") 355] }
noncomputable def o175 (P : Params) : Obj := { cls := .type "tuple", data := .seq #[] }
noncomputable def o176 (P : Params) : Obj := { cls := .none, data := .func { name := .ofString "equals", qualname := .ofString "CodeSet.equals", params := paramsOf (inCls 10 10), body := .stmts (bodyOf (inCls 10 10)), scope := scopeOf (inCls 10 10), globals := 0, closure := [], defaults := .none, kwdefaults := .none } }
noncomputable def o177 (P : Params) : Obj := { cls := .type "code", data := .fields #[.str (.ofString "equals") 351, .str (.ofString "CodeSet.equals") 352, .str (.ofString "/claim/cut.py") 353, .int 85 0, .int 2 0, .int 0 0, .int 0 0, .int 3 0, .ref 134, .bool true, .int 181 0, .ref 135, .none, .ref 136, .ref 137, .ref 138, .int 356 0, .int 85 0, .str (.ofString "/claim/cut.py") 357] }
noncomputable def o178 (P : Params) : Obj := { cls := .type "function", data := .func { name := .ofString "equals", qualname := .ofString "CodeSet.equals", params := paramsOf (inCls 10 10), body := .stmts (bodyOf (inCls 10 10)), scope := scopeOf (inCls 10 10), globals := 3, closure := [], defaults := .none, kwdefaults := .none, pyModule := .str (.ofString "unicore.ranges") 209, code := .ref 139 } }
noncomputable def o179 (P : Params) : Obj := { cls := .type "tuple", data := .seq #[] }
noncomputable def o180 (P : Params) : Obj := { cls := .none, data := .fields #[] }
noncomputable def o181 (P : Params) : Obj := { cls := .type "tuple", data := .seq #[.str (.ofString "self") 362, .str (.ofString "code") 363] }
noncomputable def o182 (P : Params) : Obj := { cls := .type "tuple", data := .seq #[] }
noncomputable def o183 (P : Params) : Obj := { cls := .none, data := .func { name := .ofString "first_at", qualname := .ofString "CodeSet.first_at", params := paramsOf (inCls 10 11), body := .stmts (bodyOf (inCls 10 11)), scope := scopeOf (inCls 10 11), globals := 0, closure := [], defaults := .none, kwdefaults := .none } }
noncomputable def o184 (P : Params) : Obj := { cls := .type "code", data := .fields #[.str (.ofString "first_at") 359, .str (.ofString "CodeSet.first_at") 360, .str (.ofString "/claim/cut.py") 361, .int 88 0, .int 2 0, .int 0 0, .int 0 0, .int 3 0, .ref 141, .bool true, .int 181 0, .ref 142, .none, .ref 143, .ref 144, .ref 145, .int 364 0, .int 88 0, .str (.ofString "/claim/cut.py") 365] }
noncomputable def o185 (P : Params) : Obj := { cls := .type "function", data := .func { name := .ofString "first_at", qualname := .ofString "CodeSet.first_at", params := paramsOf (inCls 10 11), body := .stmts (bodyOf (inCls 10 11)), scope := scopeOf (inCls 10 11), globals := 3, closure := [], defaults := .none, kwdefaults := .none, pyModule := .str (.ofString "unicore.ranges") 209, code := .ref 146 } }
noncomputable def o186 (P : Params) : Obj := { cls := .type "tuple", data := .seq #[.str (.ofString "bounds") 367] }
noncomputable def o187 (P : Params) : Obj := { cls := .type "dict", data := .dict #[{ hash := PyData.keyHash P (.ofString "__module__"), key := .str (.ofString "__module__") 258, val := .str (.ofString "unicore.ranges") 209 }, { hash := PyData.keyHash P (.ofString "__firstlineno__"), key := .str (.ofString "__firstlineno__") 262, val := .int 52 261 }, { hash := PyData.keyHash P (.ofString "__init__"), key := .str (.ofString "__init__") 270, val := .ref 69 }, { hash := PyData.keyHash P (.ofString "of"), key := .str (.ofString "of") 289, val := .ref 78 }, { hash := PyData.keyHash P (.ofString "has"), key := .str (.ofString "has") 297, val := .ref 86 }, { hash := PyData.keyHash P (.ofString "ranges"), key := .str (.ofString "ranges") 303, val := .ref 91 }, { hash := PyData.keyHash P (.ofString "size"), key := .str (.ofString "size") 310, val := .ref 98 }, { hash := PyData.keyHash P (.ofString "union"), key := .str (.ofString "union") 318, val := .ref 105 }, { hash := PyData.keyHash P (.ofString "both"), key := .str (.ofString "both") 326, val := .ref 112 }, { hash := PyData.keyHash P (.ofString "without"), key := .str (.ofString "without") 334, val := .ref 119 }, { hash := PyData.keyHash P (.ofString "opposite"), key := .str (.ofString "opposite") 341, val := .ref 126 }, { hash := PyData.keyHash P (.ofString "add"), key := .str (.ofString "add") 350, val := .ref 133 }, { hash := PyData.keyHash P (.ofString "equals"), key := .str (.ofString "equals") 358, val := .ref 140 }, { hash := PyData.keyHash P (.ofString "first_at"), key := .str (.ofString "first_at") 366, val := .ref 147 }, { hash := PyData.keyHash P (.ofString "__static_attributes__"), key := .str (.ofString "__static_attributes__") 368, val := .ref 148 }, { hash := PyData.keyHash P (.ofString "__dict__"), key := .str (.ofString "__dict__") 370, val := .ref 151 }, { hash := PyData.keyHash P (.ofString "__weakref__"), key := .str (.ofString "__weakref__") 372, val := .ref 152 }, { hash := PyData.keyHash P (.ofString "__doc__"), key := .str (.ofString "__doc__") 373, val := .none }] 4 }
noncomputable def o188 (P : Params) : Obj := { cls := .type "type", data := .cls { name := .ofString "CodeSet", bases := [.type "object"], mro := [.ref 150, .type "object"], ns := 149, qualname := .ofString "CodeSet" }, slots := #[none, none, some (.str (.ofString "CodeSet") 251), some (.str (.ofString "CodeSet") 259), some (.builtin "object.__new__"), some (.bool true)] }
noncomputable def o189 (P : Params) : Obj := { cls := .type "getset_descriptor", data := .fields #[.str (.ofString "__dict__") 369, .ref 150, .builtin "function.__dict__", .builtin "function.__dict__#set"] }
noncomputable def o190 (P : Params) : Obj := { cls := .type "getset_descriptor", data := .fields #[.str (.ofString "__weakref__") 371, .ref 150, .builtin "ExceptionGroup.__weakref__", .none] }
noncomputable def o191 (P : Params) : Obj := { cls := .type "super", data := .fields #[.ref 150, .ref 150, .ref 150] }
noncomputable def o192 (P : Params) : Obj := { cls := .type "builtin_function_or_method", data := .fields #[.builtin "object.__init_subclass__", .ref 150] }
noncomputable def o318 (P : Params) : Obj := { cls := .type "dict", data := .dict #[{ hash := PyData.keyHash P (.ofString "__name__"), key := .str (.ofString "__name__") 165, val := .str (.ofString "unicore.ranges") 209 }, { hash := PyData.keyHash P (.ofString "__doc__"), key := .str (.ofString "__doc__") 166, val := .none }, { hash := PyData.keyHash P (.ofString "__package__"), key := .str (.ofString "__package__") 167, val := .none }, { hash := PyData.keyHash P (.ofString "__loader__"), key := .str (.ofString "__loader__") 168, val := .builtin "__main__.__loader__#opaque" }, { hash := PyData.keyHash P (.ofString "__spec__"), key := .str (.ofString "__spec__") 169, val := .none }, { hash := PyData.keyHash P (.ofString "__annotations__"), key := .str (.ofString "__annotations__") 170, val := .ref 6 }, { hash := PyData.keyHash P (.ofString "__builtins__"), key := .str (.ofString "__builtins__") 171, val := .ref 4 }, { hash := PyData.keyHash P (.ofString "__file__"), key := .str (.ofString "__file__") 173, val := .str (.ofString "/claim/cut.py") 172 }, { hash := PyData.keyHash P (.ofString "__cached__"), key := .str (.ofString "__cached__") 174, val := .none }, { hash := PyData.keyHash P (.ofString "_wall"), key := .str (.ofString "_wall") 193, val := .ref 21 }, { hash := PyData.keyHash P (.ofString "MAX_CODE"), key := .str (.ofString "MAX_CODE") 197, val := .int 1114111 196 }, { hash := PyData.keyHash P (.ofString "place_by_half"), key := .str (.ofString "place_by_half") 208, val := .ref 28 }, { hash := PyData.keyHash P (.ofString "RANGE_END"), key := .str (.ofString "RANGE_END") 213, val := .int 1114112 212 }, { hash := PyData.keyHash P (.ofString "range_first_of"), key := .str (.ofString "range_first_of") 220, val := .ref 35 }, { hash := PyData.keyHash P (.ofString "range_bounds"), key := .str (.ofString "range_bounds") 226, val := .ref 40 }, { hash := PyData.keyHash P (.ofString "range_is_wanted"), key := .str (.ofString "range_is_wanted") 235, val := .ref 47 }, { hash := PyData.keyHash P (.ofString "range_merged"), key := .str (.ofString "range_merged") 250, val := .ref 54 }, { hash := PyData.keyHash P (.ofString "CodeSet"), key := .str (.ofString "CodeSet") 375, val := .ref 150 }, { hash := PyData.keyHash P (.ofString "range_set_of"), key := .str (.ofString "range_set_of") 381, val := .ref 159 }, { hash := PyData.keyHash P (.ofString "range_codes"), key := .str (.ofString "range_codes") 391, val := .ref 166 }, { hash := PyData.keyHash P (.ofString "range_apart"), key := .str (.ofString "range_apart") 399, val := .ref 173 }, { hash := PyData.keyHash P (.ofString "range_is_within"), key := .str (.ofString "range_is_within") 407, val := .ref 180 }, { hash := PyData.keyHash P (.ofString "range_do_meet"), key := .str (.ofString "range_do_meet") 415, val := .ref 187 }, { hash := PyData.keyHash P (.ofString "range_last_at"), key := .str (.ofString "range_last_at") 424, val := .ref 194 }, { hash := PyData.keyHash P (.ofString "range_number_of"), key := .str (.ofString "range_number_of") 435, val := .ref 201 }, { hash := PyData.keyHash P (.ofString "range_code_at"), key := .str (.ofString "range_code_at") 446, val := .ref 208 }, { hash := PyData.keyHash P (.ofString "range_are_like"), key := .str (.ofString "range_are_like") 454, val := .ref 215 }, { hash := PyData.keyHash P (.ofString "RangeMap"), key := .str (.ofString "RangeMap") 522, val := .ref 258 }, { hash := PyData.keyHash P (.ofString "range_rows"), key := .str (.ofString "range_rows") 534, val := .ref 269 }] 29 }
noncomputable def o319 (P : Params) : Obj := { cls := .none, data := .fields #[.int 1 0, .int 0 0, .ref 20, .int 6 0, .int 0 0, .ref 27, .int 18 0, .int 0 0, .ref 34, .int 20 0, .int 0 0, .ref 39, .int 28 0, .int 0 0, .ref 46, .int 36 0, .int 0 0, .ref 53, .int 52 0, .int 0 0, .ref 60, .int 90 0, .int 0 0, .ref 158, .int 92 0, .int 0 0, .ref 165, .int 97 0, .int 0 0, .ref 172, .int 99 0, .int 0 0, .ref 179, .int 101 0, .int 0 0, .ref 186, .int 103 0, .int 0 0, .ref 193, .int 108 0, .int 0 0, .ref 200, .int 115 0, .int 0 0, .ref 207, .int 122 0, .int 0 0, .ref 214, .int 124 0, .int 0 0, .ref 221, .int 154 0, .int 0 0, .ref 268] }
noncomputable def o257 (P : Params) : Obj := { cls := .type "tuple", data := .seq #[] }
noncomputable def o258 (P : Params) : Obj := { cls := .none, data := .fields #[] }
noncomputable def o259 (P : Params) : Obj := { cls := .none, data := .func { name := .ofString "range_set_of", qualname := .ofString "range_set_of", params := paramsOf (topAt 11), body := .stmts (bodyOf (topAt 11)), scope := scopeOf (topAt 11), globals := 0, closure := [], defaults := .none, kwdefaults := .none } }
noncomputable def o260 (P : Params) : Obj := { cls := .type "code", data := .fields #[.str (.ofString "range_set_of") 376, .str (.ofString "range_set_of") 377, .str (.ofString "/claim/cut.py") 378, .int 90 0, .int 1 0, .int 0 0, .int 0 0, .int 3 0, .ref 155, .bool true, .int 181 0, .ref 156, .none, .none, .none, .ref 157, .int 379 0, .int 90 0, .str (.ofString "/claim/cut.py") 380] }
noncomputable def o261 (P : Params) : Obj := { cls := .type "function", data := .func { name := .ofString "range_set_of", qualname := .ofString "range_set_of", params := paramsOf (topAt 11), body := .stmts (bodyOf (topAt 11)), scope := scopeOf (topAt 11), globals := 3, closure := [], defaults := .none, kwdefaults := .none, pyModule := .str (.ofString "unicore.ranges") 209, code := .ref 158 } }
noncomputable def o262 (P : Params) : Obj := { cls := .type "tuple", data := .seq #[] }
noncomputable def o263 (P : Params) : Obj := { cls := .none, data := .fields #[] }
noncomputable def o264 (P : Params) : Obj := { cls := .type "tuple", data := .seq #[.str (.ofString "code_set") 385, .str (.ofString "found") 386, .str (.ofString "first") 387, .str (.ofString "last") 388] }
noncomputable def o265 (P : Params) : Obj := { cls := .type "tuple", data := .seq #[] }
noncomputable def o266 (P : Params) : Obj := { cls := .none, data := .func { name := .ofString "range_codes", qualname := .ofString "range_codes", params := paramsOf (topAt 12), body := .stmts (bodyOf (topAt 12)), scope := scopeOf (topAt 12), globals := 0, closure := [], defaults := .none, kwdefaults := .none } }
noncomputable def o267 (P : Params) : Obj := { cls := .type "code", data := .fields #[.str (.ofString "range_codes") 382, .str (.ofString "range_codes") 383, .str (.ofString "/claim/cut.py") 384, .int 92 0, .int 1 0, .int 0 0, .int 0 0, .int 3 0, .ref 160, .bool true, .int 181 0, .ref 161, .none, .ref 162, .ref 163, .ref 164, .int 389 0, .int 92 0, .str (.ofString "/claim/cut.py") 390] }
noncomputable def o268 (P : Params) : Obj := { cls := .type "function", data := .func { name := .ofString "range_codes", qualname := .ofString "range_codes", params := paramsOf (topAt 12), body := .stmts (bodyOf (topAt 12)), scope := scopeOf (topAt 12), globals := 3, closure := [], defaults := .none, kwdefaults := .none, pyModule := .str (.ofString "unicore.ranges") 209, code := .ref 165 } }
noncomputable def o269 (P : Params) : Obj := { cls := .type "tuple", data := .seq #[] }
noncomputable def o270 (P : Params) : Obj := { cls := .none, data := .fields #[] }
noncomputable def o271 (P : Params) : Obj := { cls := .type "tuple", data := .seq #[.str (.ofString "near") 395, .str (.ofString "far") 396] }
noncomputable def o272 (P : Params) : Obj := { cls := .type "tuple", data := .seq #[] }
noncomputable def o273 (P : Params) : Obj := { cls := .none, data := .func { name := .ofString "range_apart", qualname := .ofString "range_apart", params := paramsOf (topAt 13), body := .stmts (bodyOf (topAt 13)), scope := scopeOf (topAt 13), globals := 0, closure := [], defaults := .none, kwdefaults := .none } }
noncomputable def o274 (P : Params) : Obj := { cls := .type "code", data := .fields #[.str (.ofString "range_apart") 392, .str (.ofString "range_apart") 393, .str (.ofString "/claim/cut.py") 394, .int 97 0, .int 2 0, .int 0 0, .int 0 0, .int 3 0, .ref 167, .bool true, .int 181 0, .ref 168, .none, .ref 169, .ref 170, .ref 171, .int 397 0, .int 97 0, .str (.ofString "/claim/cut.py") 398] }
noncomputable def o275 (P : Params) : Obj := { cls := .type "function", data := .func { name := .ofString "range_apart", qualname := .ofString "range_apart", params := paramsOf (topAt 13), body := .stmts (bodyOf (topAt 13)), scope := scopeOf (topAt 13), globals := 3, closure := [], defaults := .none, kwdefaults := .none, pyModule := .str (.ofString "unicore.ranges") 209, code := .ref 172 } }
noncomputable def o276 (P : Params) : Obj := { cls := .type "tuple", data := .seq #[] }
noncomputable def o277 (P : Params) : Obj := { cls := .none, data := .fields #[] }
noncomputable def o278 (P : Params) : Obj := { cls := .type "tuple", data := .seq #[.str (.ofString "near") 403, .str (.ofString "far") 404] }
noncomputable def o279 (P : Params) : Obj := { cls := .type "tuple", data := .seq #[] }
noncomputable def o280 (P : Params) : Obj := { cls := .none, data := .func { name := .ofString "range_is_within", qualname := .ofString "range_is_within", params := paramsOf (topAt 14), body := .stmts (bodyOf (topAt 14)), scope := scopeOf (topAt 14), globals := 0, closure := [], defaults := .none, kwdefaults := .none } }
noncomputable def o281 (P : Params) : Obj := { cls := .type "code", data := .fields #[.str (.ofString "range_is_within") 400, .str (.ofString "range_is_within") 401, .str (.ofString "/claim/cut.py") 402, .int 99 0, .int 2 0, .int 0 0, .int 0 0, .int 3 0, .ref 174, .bool true, .int 181 0, .ref 175, .none, .ref 176, .ref 177, .ref 178, .int 405 0, .int 99 0, .str (.ofString "/claim/cut.py") 406] }
noncomputable def o282 (P : Params) : Obj := { cls := .type "function", data := .func { name := .ofString "range_is_within", qualname := .ofString "range_is_within", params := paramsOf (topAt 14), body := .stmts (bodyOf (topAt 14)), scope := scopeOf (topAt 14), globals := 3, closure := [], defaults := .none, kwdefaults := .none, pyModule := .str (.ofString "unicore.ranges") 209, code := .ref 179 } }
noncomputable def o283 (P : Params) : Obj := { cls := .type "tuple", data := .seq #[] }
noncomputable def o284 (P : Params) : Obj := { cls := .none, data := .fields #[] }
noncomputable def o285 (P : Params) : Obj := { cls := .type "tuple", data := .seq #[.str (.ofString "near") 411, .str (.ofString "far") 412] }
noncomputable def o286 (P : Params) : Obj := { cls := .type "tuple", data := .seq #[] }
noncomputable def o287 (P : Params) : Obj := { cls := .none, data := .func { name := .ofString "range_do_meet", qualname := .ofString "range_do_meet", params := paramsOf (topAt 15), body := .stmts (bodyOf (topAt 15)), scope := scopeOf (topAt 15), globals := 0, closure := [], defaults := .none, kwdefaults := .none } }
noncomputable def o288 (P : Params) : Obj := { cls := .type "code", data := .fields #[.str (.ofString "range_do_meet") 408, .str (.ofString "range_do_meet") 409, .str (.ofString "/claim/cut.py") 410, .int 101 0, .int 2 0, .int 0 0, .int 0 0, .int 3 0, .ref 181, .bool true, .int 181 0, .ref 182, .none, .ref 183, .ref 184, .ref 185, .int 413 0, .int 101 0, .str (.ofString "/claim/cut.py") 414] }
noncomputable def o289 (P : Params) : Obj := { cls := .type "function", data := .func { name := .ofString "range_do_meet", qualname := .ofString "range_do_meet", params := paramsOf (topAt 15), body := .stmts (bodyOf (topAt 15)), scope := scopeOf (topAt 15), globals := 3, closure := [], defaults := .none, kwdefaults := .none, pyModule := .str (.ofString "unicore.ranges") 209, code := .ref 186 } }
noncomputable def o290 (P : Params) : Obj := { cls := .type "tuple", data := .seq #[] }
noncomputable def o291 (P : Params) : Obj := { cls := .none, data := .fields #[] }
noncomputable def o292 (P : Params) : Obj := { cls := .type "tuple", data := .seq #[.str (.ofString "code_set") 419, .str (.ofString "code") 420, .str (.ofString "place") 421] }
noncomputable def o293 (P : Params) : Obj := { cls := .type "tuple", data := .seq #[] }
noncomputable def o294 (P : Params) : Obj := { cls := .none, data := .func { name := .ofString "range_last_at", qualname := .ofString "range_last_at", params := paramsOf (topAt 16), body := .stmts (bodyOf (topAt 16)), scope := scopeOf (topAt 16), globals := 0, closure := [], defaults := .none, kwdefaults := .none } }
noncomputable def o295 (P : Params) : Obj := { cls := .type "code", data := .fields #[.str (.ofString "range_last_at") 416, .str (.ofString "range_last_at") 417, .str (.ofString "/claim/cut.py") 418, .int 103 0, .int 2 0, .int 0 0, .int 0 0, .int 3 0, .ref 188, .bool true, .int 181 0, .ref 189, .none, .ref 190, .ref 191, .ref 192, .int 422 0, .int 103 0, .str (.ofString "/claim/cut.py") 423] }
noncomputable def o296 (P : Params) : Obj := { cls := .type "function", data := .func { name := .ofString "range_last_at", qualname := .ofString "range_last_at", params := paramsOf (topAt 16), body := .stmts (bodyOf (topAt 16)), scope := scopeOf (topAt 16), globals := 3, closure := [], defaults := .none, kwdefaults := .none, pyModule := .str (.ofString "unicore.ranges") 209, code := .ref 193 } }
noncomputable def o297 (P : Params) : Obj := { cls := .type "tuple", data := .seq #[] }
noncomputable def o298 (P : Params) : Obj := { cls := .none, data := .fields #[] }
noncomputable def o299 (P : Params) : Obj := { cls := .type "tuple", data := .seq #[.str (.ofString "code_set") 428, .str (.ofString "code") 429, .str (.ofString "found") 430, .str (.ofString "first") 431, .str (.ofString "last") 432] }
noncomputable def o300 (P : Params) : Obj := { cls := .type "tuple", data := .seq #[] }
noncomputable def o301 (P : Params) : Obj := { cls := .none, data := .func { name := .ofString "range_number_of", qualname := .ofString "range_number_of", params := paramsOf (topAt 17), body := .stmts (bodyOf (topAt 17)), scope := scopeOf (topAt 17), globals := 0, closure := [], defaults := .none, kwdefaults := .none } }
noncomputable def o302 (P : Params) : Obj := { cls := .type "code", data := .fields #[.str (.ofString "range_number_of") 425, .str (.ofString "range_number_of") 426, .str (.ofString "/claim/cut.py") 427, .int 108 0, .int 2 0, .int 0 0, .int 0 0, .int 3 0, .ref 195, .bool true, .int 181 0, .ref 196, .none, .ref 197, .ref 198, .ref 199, .int 433 0, .int 108 0, .str (.ofString "/claim/cut.py") 434] }
noncomputable def o303 (P : Params) : Obj := { cls := .type "function", data := .func { name := .ofString "range_number_of", qualname := .ofString "range_number_of", params := paramsOf (topAt 17), body := .stmts (bodyOf (topAt 17)), scope := scopeOf (topAt 17), globals := 3, closure := [], defaults := .none, kwdefaults := .none, pyModule := .str (.ofString "unicore.ranges") 209, code := .ref 200 } }
noncomputable def o304 (P : Params) : Obj := { cls := .type "tuple", data := .seq #[] }
noncomputable def o305 (P : Params) : Obj := { cls := .none, data := .fields #[] }
noncomputable def o306 (P : Params) : Obj := { cls := .type "tuple", data := .seq #[.str (.ofString "code_set") 439, .str (.ofString "number") 440, .str (.ofString "left") 441, .str (.ofString "first") 442, .str (.ofString "last") 443] }
noncomputable def o307 (P : Params) : Obj := { cls := .type "tuple", data := .seq #[] }
noncomputable def o308 (P : Params) : Obj := { cls := .none, data := .func { name := .ofString "range_code_at", qualname := .ofString "range_code_at", params := paramsOf (topAt 18), body := .stmts (bodyOf (topAt 18)), scope := scopeOf (topAt 18), globals := 0, closure := [], defaults := .none, kwdefaults := .none } }
noncomputable def o309 (P : Params) : Obj := { cls := .type "code", data := .fields #[.str (.ofString "range_code_at") 436, .str (.ofString "range_code_at") 437, .str (.ofString "/claim/cut.py") 438, .int 115 0, .int 2 0, .int 0 0, .int 0 0, .int 3 0, .ref 202, .bool true, .int 181 0, .ref 203, .none, .ref 204, .ref 205, .ref 206, .int 444 0, .int 115 0, .str (.ofString "/claim/cut.py") 445] }
noncomputable def o310 (P : Params) : Obj := { cls := .type "function", data := .func { name := .ofString "range_code_at", qualname := .ofString "range_code_at", params := paramsOf (topAt 18), body := .stmts (bodyOf (topAt 18)), scope := scopeOf (topAt 18), globals := 3, closure := [], defaults := .none, kwdefaults := .none, pyModule := .str (.ofString "unicore.ranges") 209, code := .ref 207 } }
noncomputable def o311 (P : Params) : Obj := { cls := .type "tuple", data := .seq #[] }
noncomputable def o312 (P : Params) : Obj := { cls := .none, data := .fields #[] }
noncomputable def o313 (P : Params) : Obj := { cls := .type "tuple", data := .seq #[.str (.ofString "one") 450, .str (.ofString "other") 451] }
noncomputable def o314 (P : Params) : Obj := { cls := .type "tuple", data := .seq #[] }
noncomputable def o315 (P : Params) : Obj := { cls := .none, data := .func { name := .ofString "range_are_like", qualname := .ofString "range_are_like", params := paramsOf (topAt 19), body := .stmts (bodyOf (topAt 19)), scope := scopeOf (topAt 19), globals := 0, closure := [], defaults := .none, kwdefaults := .none } }
noncomputable def o316 (P : Params) : Obj := { cls := .type "code", data := .fields #[.str (.ofString "range_are_like") 447, .str (.ofString "range_are_like") 448, .str (.ofString "/claim/cut.py") 449, .int 122 0, .int 2 0, .int 0 0, .int 0 0, .int 3 0, .ref 209, .bool true, .int 181 0, .ref 210, .none, .ref 211, .ref 212, .ref 213, .int 452 0, .int 122 0, .str (.ofString "/claim/cut.py") 453] }
noncomputable def o317 (P : Params) : Obj := { cls := .type "function", data := .func { name := .ofString "range_are_like", qualname := .ofString "range_are_like", params := paramsOf (topAt 19), body := .stmts (bodyOf (topAt 19)), scope := scopeOf (topAt 19), globals := 3, closure := [], defaults := .none, kwdefaults := .none, pyModule := .str (.ofString "unicore.ranges") 209, code := .ref 214 } }
noncomputable def o320 (P : Params) : Obj := { cls := .type "tuple", data := .seq #[] }
noncomputable def o321 (P : Params) : Obj := { cls := .type "builtin_function_or_method", data := .fields #[.builtin "type.__prepare__", .type "type"] }
noncomputable def o322 (P : Params) : Obj := { cls := .type "dict", data := .dict #[{ hash := PyData.keyHash P (.ofString "__module__"), key := .str (.ofString "__module__") 462, val := .str (.ofString "unicore.ranges") 209 }, { hash := PyData.keyHash P (.ofString "__qualname__"), key := .str (.ofString "__qualname__") 464, val := .str (.ofString "RangeMap") 463 }, { hash := PyData.keyHash P (.ofString "__firstlineno__"), key := .str (.ofString "__firstlineno__") 466, val := .int 124 465 }, { hash := PyData.keyHash P (.ofString "__init__"), key := .str (.ofString "__init__") 474, val := .ref 229 }, { hash := PyData.keyHash P (.ofString "get"), key := .str (.ofString "get") 482, val := .ref 236 }, { hash := PyData.keyHash P (.ofString "put"), key := .str (.ofString "put") 497, val := .ref 243 }, { hash := PyData.keyHash P (.ofString "ranges"), key := .str (.ofString "ranges") 503, val := .ref 248 }, { hash := PyData.keyHash P (.ofString "set_of"), key := .str (.ofString "set_of") 511, val := .ref 255 }, { hash := PyData.keyHash P (.ofString "__static_attributes__"), key := .str (.ofString "__static_attributes__") 515, val := .ref 256 }] 9 }
noncomputable def o323 (P : Params) : Obj := { cls := .type "tuple", data := .seq #[] }
noncomputable def o324 (P : Params) : Obj := { cls := .none, data := .fields #[.int 126 0, .int 4 0, .ref 228, .int 131 0, .int 4 0, .ref 235, .int 134 0, .int 4 0, .ref 242, .int 149 0, .int 4 0, .ref 247, .int 152 0, .int 4 0, .ref 254] }
noncomputable def o325 (P : Params) : Obj := { cls := .type "code", data := .fields #[.str (.ofString "RangeMap") 457, .str (.ofString "RangeMap") 458, .str (.ofString "/claim/cut.py") 459, .int 124 0, .int 0 0, .int 0 0, .int 0 0, .int 0 0, .ref 219, .bool false, .int 181 0, .ref 220, .none, .none, .none, .none, .int 460 0, .int 124 0, .str (.ofString "/claim/cut.py") 461] }
noncomputable def o326 (P : Params) : Obj := { cls := .type "frame", slots := #[some (.ref 221), some (.ref 3), some (.ref 218), none, some (.str (.ofString "unicore.ranges") 209), none, some (.ref 0)] }
noncomputable def o327 (P : Params) : Obj := { cls := .type "tuple", data := .seq #[] }
noncomputable def o328 (P : Params) : Obj := { cls := .none, data := .fields #[] }
noncomputable def o329 (P : Params) : Obj := { cls := .type "tuple", data := .seq #[.str (.ofString "self") 470, .str (.ofString "default") 471] }
noncomputable def o330 (P : Params) : Obj := { cls := .type "tuple", data := .seq #[] }
noncomputable def o331 (P : Params) : Obj := { cls := .none, data := .func { name := .ofString "__init__", qualname := .ofString "RangeMap.__init__", params := paramsOf (inCls 20 0), body := .stmts (bodyOf (inCls 20 0)), scope := scopeOf (inCls 20 0), globals := 0, closure := [], defaults := .none, kwdefaults := .none } }
noncomputable def o332 (P : Params) : Obj := { cls := .type "code", data := .fields #[.str (.ofString "__init__") 467, .str (.ofString "RangeMap.__init__") 468, .str (.ofString "/claim/cut.py") 469, .int 126 0, .int 2 0, .int 0 0, .int 0 0, .int 3 0, .ref 223, .bool true, .int 181 0, .ref 224, .none, .ref 225, .ref 226, .ref 227, .int 472 0, .int 126 0, .str (.ofString "/claim/cut.py") 473] }
noncomputable def o333 (P : Params) : Obj := { cls := .type "function", data := .func { name := .ofString "__init__", qualname := .ofString "RangeMap.__init__", params := paramsOf (inCls 20 0), body := .stmts (bodyOf (inCls 20 0)), scope := scopeOf (inCls 20 0), globals := 3, closure := [], defaults := .none, kwdefaults := .none, pyModule := .str (.ofString "unicore.ranges") 209, code := .ref 228 } }
noncomputable def o334 (P : Params) : Obj := { cls := .type "tuple", data := .seq #[] }
noncomputable def o335 (P : Params) : Obj := { cls := .none, data := .fields #[] }
noncomputable def o336 (P : Params) : Obj := { cls := .type "tuple", data := .seq #[.str (.ofString "self") 478, .str (.ofString "code") 479] }
noncomputable def o337 (P : Params) : Obj := { cls := .type "tuple", data := .seq #[] }
noncomputable def o338 (P : Params) : Obj := { cls := .none, data := .func { name := .ofString "get", qualname := .ofString "RangeMap.get", params := paramsOf (inCls 20 1), body := .stmts (bodyOf (inCls 20 1)), scope := scopeOf (inCls 20 1), globals := 0, closure := [], defaults := .none, kwdefaults := .none } }
noncomputable def o339 (P : Params) : Obj := { cls := .type "code", data := .fields #[.str (.ofString "get") 475, .str (.ofString "RangeMap.get") 476, .str (.ofString "/claim/cut.py") 477, .int 131 0, .int 2 0, .int 0 0, .int 0 0, .int 3 0, .ref 230, .bool true, .int 181 0, .ref 231, .none, .ref 232, .ref 233, .ref 234, .int 480 0, .int 131 0, .str (.ofString "/claim/cut.py") 481] }
noncomputable def o340 (P : Params) : Obj := { cls := .type "function", data := .func { name := .ofString "get", qualname := .ofString "RangeMap.get", params := paramsOf (inCls 20 1), body := .stmts (bodyOf (inCls 20 1)), scope := scopeOf (inCls 20 1), globals := 3, closure := [], defaults := .none, kwdefaults := .none, pyModule := .str (.ofString "unicore.ranges") 209, code := .ref 235 } }
noncomputable def o341 (P : Params) : Obj := { cls := .type "tuple", data := .seq #[] }
noncomputable def o342 (P : Params) : Obj := { cls := .none, data := .fields #[] }
noncomputable def o343 (P : Params) : Obj := { cls := .type "tuple", data := .seq #[.str (.ofString "self") 486, .str (.ofString "first") 487, .str (.ofString "last") 488, .str (.ofString "value") 489, .str (.ofString "low") 490, .str (.ofString "high") 491, .str (.ofString "behind") 492, .str (.ofString "starts") 493, .str (.ofString "values") 494] }
noncomputable def o344 (P : Params) : Obj := { cls := .type "tuple", data := .seq #[] }
noncomputable def o345 (P : Params) : Obj := { cls := .none, data := .func { name := .ofString "put", qualname := .ofString "RangeMap.put", params := paramsOf (inCls 20 2), body := .stmts (bodyOf (inCls 20 2)), scope := scopeOf (inCls 20 2), globals := 0, closure := [], defaults := .none, kwdefaults := .none } }
noncomputable def o346 (P : Params) : Obj := { cls := .type "code", data := .fields #[.str (.ofString "put") 483, .str (.ofString "RangeMap.put") 484, .str (.ofString "/claim/cut.py") 485, .int 134 0, .int 4 0, .int 0 0, .int 0 0, .int 3 0, .ref 237, .bool true, .int 181 0, .ref 238, .none, .ref 239, .ref 240, .ref 241, .int 495 0, .int 134 0, .str (.ofString "/claim/cut.py") 496] }
noncomputable def o347 (P : Params) : Obj := { cls := .type "function", data := .func { name := .ofString "put", qualname := .ofString "RangeMap.put", params := paramsOf (inCls 20 2), body := .stmts (bodyOf (inCls 20 2)), scope := scopeOf (inCls 20 2), globals := 3, closure := [], defaults := .none, kwdefaults := .none, pyModule := .str (.ofString "unicore.ranges") 209, code := .ref 242 } }
noncomputable def o348 (P : Params) : Obj := { cls := .type "tuple", data := .seq #[] }
noncomputable def o349 (P : Params) : Obj := { cls := .none, data := .fields #[] }
noncomputable def o350 (P : Params) : Obj := { cls := .none, data := .func { name := .ofString "ranges", qualname := .ofString "RangeMap.ranges", params := paramsOf (inCls 20 3), body := .stmts (bodyOf (inCls 20 3)), scope := scopeOf (inCls 20 3), globals := 0, closure := [], defaults := .none, kwdefaults := .none } }
noncomputable def o351 (P : Params) : Obj := { cls := .type "code", data := .fields #[.str (.ofString "ranges") 498, .str (.ofString "RangeMap.ranges") 499, .str (.ofString "/claim/cut.py") 500, .int 149 0, .int 1 0, .int 0 0, .int 0 0, .int 3 0, .ref 244, .bool true, .int 181 0, .ref 245, .none, .none, .none, .ref 246, .int 501 0, .int 149 0, .str (.ofString "/claim/cut.py") 502] }
noncomputable def o352 (P : Params) : Obj := { cls := .type "function", data := .func { name := .ofString "ranges", qualname := .ofString "RangeMap.ranges", params := paramsOf (inCls 20 3), body := .stmts (bodyOf (inCls 20 3)), scope := scopeOf (inCls 20 3), globals := 3, closure := [], defaults := .none, kwdefaults := .none, pyModule := .str (.ofString "unicore.ranges") 209, code := .ref 247 } }
noncomputable def o353 (P : Params) : Obj := { cls := .type "tuple", data := .seq #[] }
noncomputable def o354 (P : Params) : Obj := { cls := .none, data := .fields #[] }
noncomputable def o355 (P : Params) : Obj := { cls := .type "tuple", data := .seq #[.str (.ofString "self") 507, .str (.ofString "value") 508] }
noncomputable def o356 (P : Params) : Obj := { cls := .type "tuple", data := .seq #[] }
noncomputable def o357 (P : Params) : Obj := { cls := .none, data := .func { name := .ofString "set_of", qualname := .ofString "RangeMap.set_of", params := paramsOf (inCls 20 4), body := .stmts (bodyOf (inCls 20 4)), scope := scopeOf (inCls 20 4), globals := 0, closure := [], defaults := .none, kwdefaults := .none } }
noncomputable def o358 (P : Params) : Obj := { cls := .type "code", data := .fields #[.str (.ofString "set_of") 504, .str (.ofString "RangeMap.set_of") 505, .str (.ofString "/claim/cut.py") 506, .int 152 0, .int 2 0, .int 0 0, .int 0 0, .int 3 0, .ref 249, .bool true, .int 181 0, .ref 250, .none, .ref 251, .ref 252, .ref 253, .int 509 0, .int 152 0, .str (.ofString "/claim/cut.py") 510] }
noncomputable def o359 (P : Params) : Obj := { cls := .type "function", data := .func { name := .ofString "set_of", qualname := .ofString "RangeMap.set_of", params := paramsOf (inCls 20 4), body := .stmts (bodyOf (inCls 20 4)), scope := scopeOf (inCls 20 4), globals := 3, closure := [], defaults := .none, kwdefaults := .none, pyModule := .str (.ofString "unicore.ranges") 209, code := .ref 254 } }
noncomputable def o360 (P : Params) : Obj := { cls := .type "tuple", data := .seq #[.str (.ofString "default") 512, .str (.ofString "starts") 513, .str (.ofString "values") 514] }
noncomputable def o361 (P : Params) : Obj := { cls := .type "dict", data := .dict #[{ hash := PyData.keyHash P (.ofString "__module__"), key := .str (.ofString "__module__") 462, val := .str (.ofString "unicore.ranges") 209 }, { hash := PyData.keyHash P (.ofString "__firstlineno__"), key := .str (.ofString "__firstlineno__") 466, val := .int 124 465 }, { hash := PyData.keyHash P (.ofString "__init__"), key := .str (.ofString "__init__") 474, val := .ref 229 }, { hash := PyData.keyHash P (.ofString "get"), key := .str (.ofString "get") 482, val := .ref 236 }, { hash := PyData.keyHash P (.ofString "put"), key := .str (.ofString "put") 497, val := .ref 243 }, { hash := PyData.keyHash P (.ofString "ranges"), key := .str (.ofString "ranges") 503, val := .ref 248 }, { hash := PyData.keyHash P (.ofString "set_of"), key := .str (.ofString "set_of") 511, val := .ref 255 }, { hash := PyData.keyHash P (.ofString "__static_attributes__"), key := .str (.ofString "__static_attributes__") 515, val := .ref 256 }, { hash := PyData.keyHash P (.ofString "__dict__"), key := .str (.ofString "__dict__") 517, val := .ref 259 }, { hash := PyData.keyHash P (.ofString "__weakref__"), key := .str (.ofString "__weakref__") 519, val := .ref 260 }, { hash := PyData.keyHash P (.ofString "__doc__"), key := .str (.ofString "__doc__") 520, val := .none }] 4 }
noncomputable def o362 (P : Params) : Obj := { cls := .type "type", data := .cls { name := .ofString "RangeMap", bases := [.type "object"], mro := [.ref 258, .type "object"], ns := 257, qualname := .ofString "RangeMap" }, slots := #[none, none, some (.str (.ofString "RangeMap") 455), some (.str (.ofString "RangeMap") 463), some (.builtin "object.__new__"), some (.bool true)] }
noncomputable def o363 (P : Params) : Obj := { cls := .type "getset_descriptor", data := .fields #[.str (.ofString "__dict__") 516, .ref 258, .builtin "function.__dict__", .builtin "function.__dict__#set"] }
noncomputable def o364 (P : Params) : Obj := { cls := .type "getset_descriptor", data := .fields #[.str (.ofString "__weakref__") 518, .ref 258, .builtin "ExceptionGroup.__weakref__", .none] }
noncomputable def o365 (P : Params) : Obj := { cls := .type "super", data := .fields #[.ref 258, .ref 258, .ref 258] }
noncomputable def o366 (P : Params) : Obj := { cls := .type "builtin_function_or_method", data := .fields #[.builtin "object.__init_subclass__", .ref 258] }
noncomputable def o367 (P : Params) : Obj := { cls := .type "tuple", data := .seq #[] }
noncomputable def o368 (P : Params) : Obj := { cls := .none, data := .fields #[] }
noncomputable def o369 (P : Params) : Obj := { cls := .type "tuple", data := .seq #[.str (.ofString "range_map") 526, .str (.ofString "starts") 527, .str (.ofString "found") 528, .str (.ofString "at") 529, .str (.ofString "value") 530, .str (.ofString "last") 531] }
noncomputable def o370 (P : Params) : Obj := { cls := .type "tuple", data := .seq #[] }
noncomputable def o371 (P : Params) : Obj := { cls := .none, data := .func { name := .ofString "range_rows", qualname := .ofString "range_rows", params := paramsOf (topAt 21), body := .stmts (bodyOf (topAt 21)), scope := scopeOf (topAt 21), globals := 0, closure := [], defaults := .none, kwdefaults := .none } }
noncomputable def o372 (P : Params) : Obj := { cls := .type "code", data := .fields #[.str (.ofString "range_rows") 523, .str (.ofString "range_rows") 524, .str (.ofString "/claim/cut.py") 525, .int 154 0, .int 1 0, .int 0 0, .int 0 0, .int 3 0, .ref 263, .bool true, .int 181 0, .ref 264, .none, .ref 265, .ref 266, .ref 267, .int 532 0, .int 154 0, .str (.ofString "/claim/cut.py") 533] }
noncomputable def o373 (P : Params) : Obj := { cls := .type "function", data := .func { name := .ofString "range_rows", qualname := .ofString "range_rows", params := paramsOf (topAt 21), body := .stmts (bodyOf (topAt 21)), scope := scopeOf (topAt 21), globals := 3, closure := [], defaults := .none, kwdefaults := .none, pyModule := .str (.ofString "unicore.ranges") 209, code := .ref 268 } }
noncomputable def o444 (P : Params) : Obj := { cls := .type "dict", data := .dict #[{ hash := PyData.keyHash P (.ofString "__name__"), key := .str (.ofString "__name__") 165, val := .str (.ofString "law_nt0015_01") 588 }, { hash := PyData.keyHash P (.ofString "__doc__"), key := .str (.ofString "__doc__") 166, val := .none }, { hash := PyData.keyHash P (.ofString "__package__"), key := .str (.ofString "__package__") 167, val := .none }, { hash := PyData.keyHash P (.ofString "__loader__"), key := .str (.ofString "__loader__") 168, val := .builtin "__main__.__loader__#opaque" }, { hash := PyData.keyHash P (.ofString "__spec__"), key := .str (.ofString "__spec__") 169, val := .none }, { hash := PyData.keyHash P (.ofString "__annotations__"), key := .str (.ofString "__annotations__") 170, val := .ref 6 }, { hash := PyData.keyHash P (.ofString "__builtins__"), key := .str (.ofString "__builtins__") 171, val := .ref 4 }, { hash := PyData.keyHash P (.ofString "__file__"), key := .str (.ofString "__file__") 173, val := .str (.ofString "/claim/cut.py") 172 }, { hash := PyData.keyHash P (.ofString "__cached__"), key := .str (.ofString "__cached__") 174, val := .none }, { hash := PyData.keyHash P (.ofString "_wall"), key := .str (.ofString "_wall") 193, val := .ref 21 }, { hash := PyData.keyHash P (.ofString "MAX_CODE"), key := .str (.ofString "MAX_CODE") 197, val := .int 1114111 196 }, { hash := PyData.keyHash P (.ofString "place_by_half"), key := .str (.ofString "place_by_half") 208, val := .ref 28 }, { hash := PyData.keyHash P (.ofString "RANGE_END"), key := .str (.ofString "RANGE_END") 213, val := .int 1114112 212 }, { hash := PyData.keyHash P (.ofString "range_first_of"), key := .str (.ofString "range_first_of") 220, val := .ref 35 }, { hash := PyData.keyHash P (.ofString "range_bounds"), key := .str (.ofString "range_bounds") 226, val := .ref 40 }, { hash := PyData.keyHash P (.ofString "range_is_wanted"), key := .str (.ofString "range_is_wanted") 235, val := .ref 47 }, { hash := PyData.keyHash P (.ofString "range_merged"), key := .str (.ofString "range_merged") 250, val := .ref 54 }, { hash := PyData.keyHash P (.ofString "CodeSet"), key := .str (.ofString "CodeSet") 375, val := .ref 150 }, { hash := PyData.keyHash P (.ofString "range_set_of"), key := .str (.ofString "range_set_of") 381, val := .ref 159 }, { hash := PyData.keyHash P (.ofString "range_codes"), key := .str (.ofString "range_codes") 391, val := .ref 166 }, { hash := PyData.keyHash P (.ofString "range_apart"), key := .str (.ofString "range_apart") 399, val := .ref 173 }, { hash := PyData.keyHash P (.ofString "range_is_within"), key := .str (.ofString "range_is_within") 407, val := .ref 180 }, { hash := PyData.keyHash P (.ofString "range_do_meet"), key := .str (.ofString "range_do_meet") 415, val := .ref 187 }, { hash := PyData.keyHash P (.ofString "range_last_at"), key := .str (.ofString "range_last_at") 424, val := .ref 194 }, { hash := PyData.keyHash P (.ofString "range_number_of"), key := .str (.ofString "range_number_of") 435, val := .ref 201 }, { hash := PyData.keyHash P (.ofString "range_code_at"), key := .str (.ofString "range_code_at") 446, val := .ref 208 }, { hash := PyData.keyHash P (.ofString "range_are_like"), key := .str (.ofString "range_are_like") 454, val := .ref 215 }, { hash := PyData.keyHash P (.ofString "RangeMap"), key := .str (.ofString "RangeMap") 522, val := .ref 258 }, { hash := PyData.keyHash P (.ofString "range_rows"), key := .str (.ofString "range_rows") 534, val := .ref 269 }, { hash := PyData.keyHash P (.ofString "range_map_of"), key := .str (.ofString "range_map_of") 546, val := .ref 276 }, { hash := PyData.keyHash P (.ofString "range_values"), key := .str (.ofString "range_values") 552, val := .ref 281 }, { hash := PyData.keyHash P (.ofString "range_maps_equal"), key := .str (.ofString "range_maps_equal") 558, val := .ref 286 }, { hash := PyData.keyHash P (.ofString "range_laid_over"), key := .str (.ofString "range_laid_over") 570, val := .ref 293 }, { hash := PyData.keyHash P (.ofString "range_map_paired"), key := .str (.ofString "range_map_paired") 587, val := .ref 300 }, { hash := PyData.keyHash P (.ofString "_law_spots"), key := .str (.ofString "_law_spots") 610, val := .ref 301 }, { hash := PyData.keyHash P (.ofString "_law_asked"), key := .str (.ofString "_law_asked") 616, val := .ref 308 }, { hash := PyData.keyHash P (.ofString "_law_runs"), key := .str (.ofString "_law_runs") 625, val := .ref 315 }, { hash := PyData.keyHash P (.ofString "_law_sets_right"), key := .str (.ofString "_law_sets_right") 631, val := .ref 320 }, { hash := PyData.keyHash P (.ofString "_law_numbers_right"), key := .str (.ofString "_law_numbers_right") 637, val := .ref 325 }, { hash := PyData.keyHash P (.ofString "_law_rest_right"), key := .str (.ofString "_law_rest_right") 643, val := .ref 330 }, { hash := PyData.keyHash P (.ofString "_law_rows"), key := .str (.ofString "_law_rows") 653, val := .ref 337 }, { hash := PyData.keyHash P (.ofString "_law_value"), key := .str (.ofString "_law_value") 665, val := .ref 344 }, { hash := PyData.keyHash P (.ofString "_law_tiles"), key := .str (.ofString "_law_tiles") 679, val := .ref 351 }, { hash := PyData.keyHash P (.ofString "_law_laid"), key := .str (.ofString "_law_laid") 689, val := .ref 358 }, { hash := PyData.keyHash P (.ofString "_law_maps_right"), key := .str (.ofString "_law_maps_right") 695, val := .ref 363 }, { hash := PyData.keyHash P (.ofString "_law_pairs_right"), key := .str (.ofString "_law_pairs_right") 706, val := .ref 370 }, { hash := PyData.keyHash P (.ofString "law"), key := .str (.ofString "law") 712, val := .ref 375 }] 47 }
noncomputable def o445 (P : Params) : Obj := { cls := .none, data := .fields #[.int 1 0, .int 0 0, .ref 20, .int 6 0, .int 0 0, .ref 27, .int 18 0, .int 0 0, .ref 34, .int 20 0, .int 0 0, .ref 39, .int 28 0, .int 0 0, .ref 46, .int 36 0, .int 0 0, .ref 53, .int 52 0, .int 0 0, .ref 60, .int 90 0, .int 0 0, .ref 158, .int 92 0, .int 0 0, .ref 165, .int 97 0, .int 0 0, .ref 172, .int 99 0, .int 0 0, .ref 179, .int 101 0, .int 0 0, .ref 186, .int 103 0, .int 0 0, .ref 193, .int 108 0, .int 0 0, .ref 200, .int 115 0, .int 0 0, .ref 207, .int 122 0, .int 0 0, .ref 214, .int 124 0, .int 0 0, .ref 221, .int 154 0, .int 0 0, .ref 268, .int 160 0, .int 0 0, .ref 275, .int 165 0, .int 0 0, .ref 280, .int 171 0, .int 0 0, .ref 285, .int 175 0, .int 0 0, .ref 292, .int 180 0, .int 0 0, .ref 299, .int 197 0, .int 0 0, .ref 307, .int 199 0, .int 0 0, .ref 314, .int 207 0, .int 0 0, .ref 319, .int 220 0, .int 0 0, .ref 324, .int 230 0, .int 0 0, .ref 329, .int 244 0, .int 0 0, .ref 336, .int 249 0, .int 0 0, .ref 343, .int 255 0, .int 0 0, .ref 350, .int 269 0, .int 0 0, .ref 357, .int 272 0, .int 0 0, .ref 362, .int 290 0, .int 0 0, .ref 369, .int 293 0, .int 0 0, .ref 374] }
noncomputable def o376 (P : Params) : Obj := { cls := .type "tuple", data := .seq #[] }
noncomputable def o377 (P : Params) : Obj := { cls := .none, data := .fields #[] }
noncomputable def o378 (P : Params) : Obj := { cls := .type "tuple", data := .seq #[.str (.ofString "rows") 538, .str (.ofString "default") 539, .str (.ofString "found") 540, .str (.ofString "first") 541, .str (.ofString "last") 542, .str (.ofString "value") 543] }
noncomputable def o379 (P : Params) : Obj := { cls := .type "tuple", data := .seq #[] }
noncomputable def o380 (P : Params) : Obj := { cls := .none, data := .func { name := .ofString "range_map_of", qualname := .ofString "range_map_of", params := paramsOf (topAt 22), body := .stmts (bodyOf (topAt 22)), scope := scopeOf (topAt 22), globals := 0, closure := [], defaults := .none, kwdefaults := .none } }
noncomputable def o381 (P : Params) : Obj := { cls := .type "code", data := .fields #[.str (.ofString "range_map_of") 535, .str (.ofString "range_map_of") 536, .str (.ofString "/claim/cut.py") 537, .int 160 0, .int 2 0, .int 0 0, .int 0 0, .int 3 0, .ref 270, .bool true, .int 181 0, .ref 271, .none, .ref 272, .ref 273, .ref 274, .int 544 0, .int 160 0, .str (.ofString "/claim/cut.py") 545] }
noncomputable def o382 (P : Params) : Obj := { cls := .type "function", data := .func { name := .ofString "range_map_of", qualname := .ofString "range_map_of", params := paramsOf (topAt 22), body := .stmts (bodyOf (topAt 22)), scope := scopeOf (topAt 22), globals := 3, closure := [], defaults := .none, kwdefaults := .none, pyModule := .str (.ofString "unicore.ranges") 209, code := .ref 275 } }
noncomputable def o383 (P : Params) : Obj := { cls := .type "tuple", data := .seq #[] }
noncomputable def o384 (P : Params) : Obj := { cls := .none, data := .fields #[] }
noncomputable def o385 (P : Params) : Obj := { cls := .none, data := .func { name := .ofString "range_values", qualname := .ofString "range_values", params := paramsOf (topAt 23), body := .stmts (bodyOf (topAt 23)), scope := scopeOf (topAt 23), globals := 0, closure := [], defaults := .none, kwdefaults := .none } }
noncomputable def o386 (P : Params) : Obj := { cls := .type "code", data := .fields #[.str (.ofString "range_values") 547, .str (.ofString "range_values") 548, .str (.ofString "/claim/cut.py") 549, .int 165 0, .int 1 0, .int 0 0, .int 0 0, .int 3 0, .ref 277, .bool true, .int 181 0, .ref 278, .none, .none, .none, .ref 279, .int 550 0, .int 165 0, .str (.ofString "/claim/cut.py") 551] }
noncomputable def o387 (P : Params) : Obj := { cls := .type "function", data := .func { name := .ofString "range_values", qualname := .ofString "range_values", params := paramsOf (topAt 23), body := .stmts (bodyOf (topAt 23)), scope := scopeOf (topAt 23), globals := 3, closure := [], defaults := .none, kwdefaults := .none, pyModule := .str (.ofString "unicore.ranges") 209, code := .ref 280 } }
noncomputable def o388 (P : Params) : Obj := { cls := .type "tuple", data := .seq #[] }
noncomputable def o389 (P : Params) : Obj := { cls := .none, data := .fields #[] }
noncomputable def o390 (P : Params) : Obj := { cls := .none, data := .func { name := .ofString "range_maps_equal", qualname := .ofString "range_maps_equal", params := paramsOf (topAt 24), body := .stmts (bodyOf (topAt 24)), scope := scopeOf (topAt 24), globals := 0, closure := [], defaults := .none, kwdefaults := .none } }
noncomputable def o391 (P : Params) : Obj := { cls := .type "code", data := .fields #[.str (.ofString "range_maps_equal") 553, .str (.ofString "range_maps_equal") 554, .str (.ofString "/claim/cut.py") 555, .int 171 0, .int 2 0, .int 0 0, .int 0 0, .int 3 0, .ref 282, .bool true, .int 181 0, .ref 283, .none, .none, .none, .ref 284, .int 556 0, .int 171 0, .str (.ofString "/claim/cut.py") 557] }
noncomputable def o392 (P : Params) : Obj := { cls := .type "function", data := .func { name := .ofString "range_maps_equal", qualname := .ofString "range_maps_equal", params := paramsOf (topAt 24), body := .stmts (bodyOf (topAt 24)), scope := scopeOf (topAt 24), globals := 3, closure := [], defaults := .none, kwdefaults := .none, pyModule := .str (.ofString "unicore.ranges") 209, code := .ref 285 } }
noncomputable def o393 (P : Params) : Obj := { cls := .type "tuple", data := .seq #[] }
noncomputable def o394 (P : Params) : Obj := { cls := .none, data := .fields #[] }
noncomputable def o395 (P : Params) : Obj := { cls := .type "tuple", data := .seq #[.str (.ofString "below") 562, .str (.ofString "above") 563, .str (.ofString "found") 564, .str (.ofString "first") 565, .str (.ofString "last") 566, .str (.ofString "value") 567] }
noncomputable def o396 (P : Params) : Obj := { cls := .type "tuple", data := .seq #[] }
noncomputable def o397 (P : Params) : Obj := { cls := .none, data := .func { name := .ofString "range_laid_over", qualname := .ofString "range_laid_over", params := paramsOf (topAt 25), body := .stmts (bodyOf (topAt 25)), scope := scopeOf (topAt 25), globals := 0, closure := [], defaults := .none, kwdefaults := .none } }
noncomputable def o398 (P : Params) : Obj := { cls := .type "code", data := .fields #[.str (.ofString "range_laid_over") 559, .str (.ofString "range_laid_over") 560, .str (.ofString "/claim/cut.py") 561, .int 175 0, .int 2 0, .int 0 0, .int 0 0, .int 3 0, .ref 287, .bool true, .int 181 0, .ref 288, .none, .ref 289, .ref 290, .ref 291, .int 568 0, .int 175 0, .str (.ofString "/claim/cut.py") 569] }
noncomputable def o399 (P : Params) : Obj := { cls := .type "function", data := .func { name := .ofString "range_laid_over", qualname := .ofString "range_laid_over", params := paramsOf (topAt 25), body := .stmts (bodyOf (topAt 25)), scope := scopeOf (topAt 25), globals := 3, closure := [], defaults := .none, kwdefaults := .none, pyModule := .str (.ofString "unicore.ranges") 209, code := .ref 292 } }
noncomputable def o400 (P : Params) : Obj := { cls := .type "tuple", data := .seq #[] }
noncomputable def o401 (P : Params) : Obj := { cls := .none, data := .fields #[] }
noncomputable def o402 (P : Params) : Obj := { cls := .type "tuple", data := .seq #[.str (.ofString "near") 574, .str (.ofString "far") 575, .str (.ofString "found") 576, .str (.ofString "at") 577, .str (.ofString "beside") 578, .str (.ofString "code") 579, .str (.ofString "starts") 580, .str (.ofString "values") 581, .str (.ofString "pair") 582, .str (.ofString "ahead") 583, .str (.ofString "other") 584] }
noncomputable def o403 (P : Params) : Obj := { cls := .type "tuple", data := .seq #[] }
noncomputable def o404 (P : Params) : Obj := { cls := .none, data := .func { name := .ofString "range_map_paired", qualname := .ofString "range_map_paired", params := paramsOf (topAt 26), body := .stmts (bodyOf (topAt 26)), scope := scopeOf (topAt 26), globals := 0, closure := [], defaults := .none, kwdefaults := .none } }
noncomputable def o405 (P : Params) : Obj := { cls := .type "code", data := .fields #[.str (.ofString "range_map_paired") 571, .str (.ofString "range_map_paired") 572, .str (.ofString "/claim/cut.py") 573, .int 180 0, .int 2 0, .int 0 0, .int 0 0, .int 3 0, .ref 294, .bool true, .int 181 0, .ref 295, .none, .ref 296, .ref 297, .ref 298, .int 585 0, .int 180 0, .str (.ofString "/claim/cut.py") 586] }
noncomputable def o406 (P : Params) : Obj := { cls := .type "function", data := .func { name := .ofString "range_map_paired", qualname := .ofString "range_map_paired", params := paramsOf (topAt 26), body := .stmts (bodyOf (topAt 26)), scope := scopeOf (topAt 26), globals := 3, closure := [], defaults := .none, kwdefaults := .none, pyModule := .str (.ofString "unicore.ranges") 209, code := .ref 299 } }
noncomputable def o407 (P : Params) : Obj := { cls := .type "list", data := .seq #[.int 0 590, .int 1 591, .int 2 592, .int 3 593, .int 4 594, .int 5 595, .int 6 596, .int 7 597, .int 8 598, .int 9 599, .int 10 600, .int 11 601, .int 12 602, .int 13 603, .int 14 604, .int 15 605, .int 1114108 606, .int 1114109 607, .int 1114110 608, .int 1114111 609] }
noncomputable def o408 (P : Params) : Obj := { cls := .type "tuple", data := .seq #[] }
noncomputable def o409 (P : Params) : Obj := { cls := .none, data := .fields #[] }
noncomputable def o410 (P : Params) : Obj := { cls := .type "tuple", data := .seq #[] }
noncomputable def o411 (P : Params) : Obj := { cls := .type "tuple", data := .seq #[] }
noncomputable def o412 (P : Params) : Obj := { cls := .none, data := .func { name := .ofString "_law_asked", qualname := .ofString "_law_asked", params := paramsOf (topAt 29), body := .stmts (bodyOf (topAt 29)), scope := scopeOf (topAt 29), globals := 0, closure := [], defaults := .none, kwdefaults := .none } }
noncomputable def o413 (P : Params) : Obj := { cls := .type "code", data := .fields #[.str (.ofString "_law_asked") 611, .str (.ofString "_law_asked") 612, .str (.ofString "/claim/cut.py") 613, .int 197 0, .int 0 0, .int 0 0, .int 0 0, .int 3 0, .ref 302, .bool true, .int 181 0, .ref 303, .none, .ref 304, .ref 305, .ref 306, .int 614 0, .int 197 0, .str (.ofString "/claim/cut.py") 615] }
noncomputable def o414 (P : Params) : Obj := { cls := .type "function", data := .func { name := .ofString "_law_asked", qualname := .ofString "_law_asked", params := paramsOf (topAt 29), body := .stmts (bodyOf (topAt 29)), scope := scopeOf (topAt 29), globals := 3, closure := [], defaults := .none, kwdefaults := .none, pyModule := .str (.ofString "law_nt0015_01") 588, code := .ref 307 } }
noncomputable def o415 (P : Params) : Obj := { cls := .type "tuple", data := .seq #[] }
noncomputable def o416 (P : Params) : Obj := { cls := .none, data := .fields #[] }
noncomputable def o417 (P : Params) : Obj := { cls := .type "tuple", data := .seq #[.str (.ofString "codes") 620, .str (.ofString "found") 621, .str (.ofString "code") 622] }
noncomputable def o418 (P : Params) : Obj := { cls := .type "tuple", data := .seq #[] }
noncomputable def o419 (P : Params) : Obj := { cls := .none, data := .func { name := .ofString "_law_runs", qualname := .ofString "_law_runs", params := paramsOf (topAt 30), body := .stmts (bodyOf (topAt 30)), scope := scopeOf (topAt 30), globals := 0, closure := [], defaults := .none, kwdefaults := .none } }
noncomputable def o420 (P : Params) : Obj := { cls := .type "code", data := .fields #[.str (.ofString "_law_runs") 617, .str (.ofString "_law_runs") 618, .str (.ofString "/claim/cut.py") 619, .int 199 0, .int 1 0, .int 0 0, .int 0 0, .int 3 0, .ref 309, .bool true, .int 181 0, .ref 310, .none, .ref 311, .ref 312, .ref 313, .int 623 0, .int 199 0, .str (.ofString "/claim/cut.py") 624] }
noncomputable def o421 (P : Params) : Obj := { cls := .type "function", data := .func { name := .ofString "_law_runs", qualname := .ofString "_law_runs", params := paramsOf (topAt 30), body := .stmts (bodyOf (topAt 30)), scope := scopeOf (topAt 30), globals := 3, closure := [], defaults := .none, kwdefaults := .none, pyModule := .str (.ofString "law_nt0015_01") 588, code := .ref 314 } }
noncomputable def o422 (P : Params) : Obj := { cls := .type "tuple", data := .seq #[] }
noncomputable def o423 (P : Params) : Obj := { cls := .none, data := .fields #[] }
noncomputable def o424 (P : Params) : Obj := { cls := .none, data := .func { name := .ofString "_law_sets_right", qualname := .ofString "_law_sets_right", params := paramsOf (topAt 31), body := .stmts (bodyOf (topAt 31)), scope := scopeOf (topAt 31), globals := 0, closure := [], defaults := .none, kwdefaults := .none } }
noncomputable def o425 (P : Params) : Obj := { cls := .type "code", data := .fields #[.str (.ofString "_law_sets_right") 626, .str (.ofString "_law_sets_right") 627, .str (.ofString "/claim/cut.py") 628, .int 207 0, .int 2 0, .int 0 0, .int 0 0, .int 3 0, .ref 316, .bool true, .int 181 0, .ref 317, .none, .none, .none, .ref 318, .int 629 0, .int 207 0, .str (.ofString "/claim/cut.py") 630] }
noncomputable def o426 (P : Params) : Obj := { cls := .type "function", data := .func { name := .ofString "_law_sets_right", qualname := .ofString "_law_sets_right", params := paramsOf (topAt 31), body := .stmts (bodyOf (topAt 31)), scope := scopeOf (topAt 31), globals := 3, closure := [], defaults := .none, kwdefaults := .none, pyModule := .str (.ofString "law_nt0015_01") 588, code := .ref 319 } }
noncomputable def o427 (P : Params) : Obj := { cls := .type "tuple", data := .seq #[] }
noncomputable def o428 (P : Params) : Obj := { cls := .none, data := .fields #[] }
noncomputable def o429 (P : Params) : Obj := { cls := .none, data := .func { name := .ofString "_law_numbers_right", qualname := .ofString "_law_numbers_right", params := paramsOf (topAt 32), body := .stmts (bodyOf (topAt 32)), scope := scopeOf (topAt 32), globals := 0, closure := [], defaults := .none, kwdefaults := .none } }
noncomputable def o430 (P : Params) : Obj := { cls := .type "code", data := .fields #[.str (.ofString "_law_numbers_right") 632, .str (.ofString "_law_numbers_right") 633, .str (.ofString "/claim/cut.py") 634, .int 220 0, .int 1 0, .int 0 0, .int 0 0, .int 3 0, .ref 321, .bool true, .int 181 0, .ref 322, .none, .none, .none, .ref 323, .int 635 0, .int 220 0, .str (.ofString "/claim/cut.py") 636] }
noncomputable def o431 (P : Params) : Obj := { cls := .type "function", data := .func { name := .ofString "_law_numbers_right", qualname := .ofString "_law_numbers_right", params := paramsOf (topAt 32), body := .stmts (bodyOf (topAt 32)), scope := scopeOf (topAt 32), globals := 3, closure := [], defaults := .none, kwdefaults := .none, pyModule := .str (.ofString "law_nt0015_01") 588, code := .ref 324 } }
noncomputable def o432 (P : Params) : Obj := { cls := .type "tuple", data := .seq #[] }
noncomputable def o433 (P : Params) : Obj := { cls := .none, data := .fields #[] }
noncomputable def o434 (P : Params) : Obj := { cls := .none, data := .func { name := .ofString "_law_rest_right", qualname := .ofString "_law_rest_right", params := paramsOf (topAt 33), body := .stmts (bodyOf (topAt 33)), scope := scopeOf (topAt 33), globals := 0, closure := [], defaults := .none, kwdefaults := .none } }
noncomputable def o435 (P : Params) : Obj := { cls := .type "code", data := .fields #[.str (.ofString "_law_rest_right") 638, .str (.ofString "_law_rest_right") 639, .str (.ofString "/claim/cut.py") 640, .int 230 0, .int 1 0, .int 0 0, .int 0 0, .int 3 0, .ref 326, .bool true, .int 181 0, .ref 327, .none, .none, .none, .ref 328, .int 641 0, .int 230 0, .str (.ofString "/claim/cut.py") 642] }
noncomputable def o436 (P : Params) : Obj := { cls := .type "function", data := .func { name := .ofString "_law_rest_right", qualname := .ofString "_law_rest_right", params := paramsOf (topAt 33), body := .stmts (bodyOf (topAt 33)), scope := scopeOf (topAt 33), globals := 3, closure := [], defaults := .none, kwdefaults := .none, pyModule := .str (.ofString "law_nt0015_01") 588, code := .ref 329 } }
noncomputable def o437 (P : Params) : Obj := { cls := .type "tuple", data := .seq #[] }
noncomputable def o438 (P : Params) : Obj := { cls := .none, data := .fields #[] }
noncomputable def o439 (P : Params) : Obj := { cls := .type "tuple", data := .seq #[.str (.ofString "cells") 647, .str (.ofString "some") 648, .str (.ofString "found") 649, .str (.ofString "k") 650] }
noncomputable def o440 (P : Params) : Obj := { cls := .type "tuple", data := .seq #[] }
noncomputable def o441 (P : Params) : Obj := { cls := .none, data := .func { name := .ofString "_law_rows", qualname := .ofString "_law_rows", params := paramsOf (topAt 34), body := .stmts (bodyOf (topAt 34)), scope := scopeOf (topAt 34), globals := 0, closure := [], defaults := .none, kwdefaults := .none } }
noncomputable def o442 (P : Params) : Obj := { cls := .type "code", data := .fields #[.str (.ofString "_law_rows") 644, .str (.ofString "_law_rows") 645, .str (.ofString "/claim/cut.py") 646, .int 244 0, .int 2 0, .int 0 0, .int 0 0, .int 3 0, .ref 331, .bool true, .int 181 0, .ref 332, .none, .ref 333, .ref 334, .ref 335, .int 651 0, .int 244 0, .str (.ofString "/claim/cut.py") 652] }
noncomputable def o443 (P : Params) : Obj := { cls := .type "function", data := .func { name := .ofString "_law_rows", qualname := .ofString "_law_rows", params := paramsOf (topAt 34), body := .stmts (bodyOf (topAt 34)), scope := scopeOf (topAt 34), globals := 3, closure := [], defaults := .none, kwdefaults := .none, pyModule := .str (.ofString "law_nt0015_01") 588, code := .ref 336 } }
noncomputable def o446 (P : Params) : Obj := { cls := .type "tuple", data := .seq #[] }
noncomputable def o447 (P : Params) : Obj := { cls := .none, data := .fields #[] }
noncomputable def o448 (P : Params) : Obj := { cls := .type "tuple", data := .seq #[.str (.ofString "rows") 657, .str (.ofString "code") 658, .str (.ofString "found") 659, .str (.ofString "low") 660, .str (.ofString "high") 661, .str (.ofString "value") 662] }
noncomputable def o449 (P : Params) : Obj := { cls := .type "tuple", data := .seq #[] }
noncomputable def o450 (P : Params) : Obj := { cls := .none, data := .func { name := .ofString "_law_value", qualname := .ofString "_law_value", params := paramsOf (topAt 35), body := .stmts (bodyOf (topAt 35)), scope := scopeOf (topAt 35), globals := 0, closure := [], defaults := .none, kwdefaults := .none } }
noncomputable def o451 (P : Params) : Obj := { cls := .type "code", data := .fields #[.str (.ofString "_law_value") 654, .str (.ofString "_law_value") 655, .str (.ofString "/claim/cut.py") 656, .int 249 0, .int 2 0, .int 0 0, .int 0 0, .int 3 0, .ref 338, .bool true, .int 181 0, .ref 339, .none, .ref 340, .ref 341, .ref 342, .int 663 0, .int 249 0, .str (.ofString "/claim/cut.py") 664] }
noncomputable def o452 (P : Params) : Obj := { cls := .type "function", data := .func { name := .ofString "_law_value", qualname := .ofString "_law_value", params := paramsOf (topAt 35), body := .stmts (bodyOf (topAt 35)), scope := scopeOf (topAt 35), globals := 3, closure := [], defaults := .none, kwdefaults := .none, pyModule := .str (.ofString "law_nt0015_01") 588, code := .ref 343 } }
noncomputable def o453 (P : Params) : Obj := { cls := .type "tuple", data := .seq #[] }
noncomputable def o454 (P : Params) : Obj := { cls := .none, data := .fields #[] }
noncomputable def o455 (P : Params) : Obj := { cls := .type "tuple", data := .seq #[.str (.ofString "rows") 669, .str (.ofString "told") 670, .str (.ofString "points") 671, .str (.ofString "low") 672, .str (.ofString "high") 673, .str (.ofString "value") 674, .str (.ofString "cuts") 675, .str (.ofString "found") 676] }
noncomputable def o456 (P : Params) : Obj := { cls := .type "tuple", data := .seq #[] }
noncomputable def o457 (P : Params) : Obj := { cls := .none, data := .func { name := .ofString "_law_tiles", qualname := .ofString "_law_tiles", params := paramsOf (topAt 36), body := .stmts (bodyOf (topAt 36)), scope := scopeOf (topAt 36), globals := 0, closure := [], defaults := .none, kwdefaults := .none } }
noncomputable def o458 (P : Params) : Obj := { cls := .type "code", data := .fields #[.str (.ofString "_law_tiles") 666, .str (.ofString "_law_tiles") 667, .str (.ofString "/claim/cut.py") 668, .int 255 0, .int 2 0, .int 0 0, .int 0 0, .int 3 0, .ref 345, .bool true, .int 181 0, .ref 346, .none, .ref 347, .ref 348, .ref 349, .int 677 0, .int 255 0, .str (.ofString "/claim/cut.py") 678] }
noncomputable def o459 (P : Params) : Obj := { cls := .type "function", data := .func { name := .ofString "_law_tiles", qualname := .ofString "_law_tiles", params := paramsOf (topAt 36), body := .stmts (bodyOf (topAt 36)), scope := scopeOf (topAt 36), globals := 3, closure := [], defaults := .none, kwdefaults := .none, pyModule := .str (.ofString "law_nt0015_01") 588, code := .ref 350 } }
noncomputable def o460 (P : Params) : Obj := { cls := .type "tuple", data := .seq #[] }
noncomputable def o461 (P : Params) : Obj := { cls := .none, data := .fields #[] }
noncomputable def o462 (P : Params) : Obj := { cls := .type "tuple", data := .seq #[.str (.ofString "one") 683, .str (.ofString "other") 684, .str (.ofString "code") 685, .str (.ofString "told") 686] }
noncomputable def o463 (P : Params) : Obj := { cls := .type "tuple", data := .seq #[] }
noncomputable def o464 (P : Params) : Obj := { cls := .none, data := .func { name := .ofString "_law_laid", qualname := .ofString "_law_laid", params := paramsOf (topAt 37), body := .stmts (bodyOf (topAt 37)), scope := scopeOf (topAt 37), globals := 0, closure := [], defaults := .none, kwdefaults := .none } }
noncomputable def o465 (P : Params) : Obj := { cls := .type "code", data := .fields #[.str (.ofString "_law_laid") 680, .str (.ofString "_law_laid") 681, .str (.ofString "/claim/cut.py") 682, .int 269 0, .int 3 0, .int 0 0, .int 0 0, .int 3 0, .ref 352, .bool true, .int 181 0, .ref 353, .none, .ref 354, .ref 355, .ref 356, .int 687 0, .int 269 0, .str (.ofString "/claim/cut.py") 688] }
noncomputable def o466 (P : Params) : Obj := { cls := .type "function", data := .func { name := .ofString "_law_laid", qualname := .ofString "_law_laid", params := paramsOf (topAt 37), body := .stmts (bodyOf (topAt 37)), scope := scopeOf (topAt 37), globals := 3, closure := [], defaults := .none, kwdefaults := .none, pyModule := .str (.ofString "law_nt0015_01") 588, code := .ref 357 } }
noncomputable def o467 (P : Params) : Obj := { cls := .type "tuple", data := .seq #[] }
noncomputable def o468 (P : Params) : Obj := { cls := .none, data := .fields #[] }
noncomputable def o469 (P : Params) : Obj := { cls := .none, data := .func { name := .ofString "_law_maps_right", qualname := .ofString "_law_maps_right", params := paramsOf (topAt 38), body := .stmts (bodyOf (topAt 38)), scope := scopeOf (topAt 38), globals := 0, closure := [], defaults := .none, kwdefaults := .none } }
noncomputable def o470 (P : Params) : Obj := { cls := .type "code", data := .fields #[.str (.ofString "_law_maps_right") 690, .str (.ofString "_law_maps_right") 691, .str (.ofString "/claim/cut.py") 692, .int 272 0, .int 2 0, .int 0 0, .int 0 0, .int 3 0, .ref 359, .bool true, .int 181 0, .ref 360, .none, .none, .none, .ref 361, .int 693 0, .int 272 0, .str (.ofString "/claim/cut.py") 694] }
noncomputable def o471 (P : Params) : Obj := { cls := .type "function", data := .func { name := .ofString "_law_maps_right", qualname := .ofString "_law_maps_right", params := paramsOf (topAt 38), body := .stmts (bodyOf (topAt 38)), scope := scopeOf (topAt 38), globals := 3, closure := [], defaults := .none, kwdefaults := .none, pyModule := .str (.ofString "law_nt0015_01") 588, code := .ref 362 } }
noncomputable def o472 (P : Params) : Obj := { cls := .type "tuple", data := .seq #[] }
noncomputable def o473 (P : Params) : Obj := { cls := .none, data := .fields #[] }
noncomputable def o474 (P : Params) : Obj := { cls := .type "tuple", data := .seq #[.str (.ofString "one") 699, .str (.ofString "other") 700, .str (.ofString "told") 701] }
noncomputable def o475 (P : Params) : Obj := { cls := .type "tuple", data := .seq #[.str (.ofString "one") 702, .str (.ofString "other") 703] }
noncomputable def o476 (P : Params) : Obj := { cls := .none, data := .func { name := .ofString "_law_pairs_right", qualname := .ofString "_law_pairs_right", params := paramsOf (topAt 39), body := .stmts (bodyOf (topAt 39)), scope := scopeOf (topAt 39), globals := 0, closure := [], defaults := .none, kwdefaults := .none } }
noncomputable def o477 (P : Params) : Obj := { cls := .type "code", data := .fields #[.str (.ofString "_law_pairs_right") 696, .str (.ofString "_law_pairs_right") 697, .str (.ofString "/claim/cut.py") 698, .int 290 0, .int 2 0, .int 0 0, .int 0 0, .int 3 0, .ref 364, .bool true, .int 181 0, .ref 365, .none, .ref 366, .ref 367, .ref 368, .int 704 0, .int 290 0, .str (.ofString "/claim/cut.py") 705] }
noncomputable def o478 (P : Params) : Obj := { cls := .type "function", data := .func { name := .ofString "_law_pairs_right", qualname := .ofString "_law_pairs_right", params := paramsOf (topAt 39), body := .stmts (bodyOf (topAt 39)), scope := scopeOf (topAt 39), globals := 3, closure := [], defaults := .none, kwdefaults := .none, pyModule := .str (.ofString "law_nt0015_01") 588, code := .ref 369 } }
noncomputable def o479 (P : Params) : Obj := { cls := .type "tuple", data := .seq #[] }
noncomputable def o480 (P : Params) : Obj := { cls := .none, data := .fields #[] }
noncomputable def o481 (P : Params) : Obj := { cls := .none, data := .func { name := .ofString "law", qualname := .ofString "law", params := paramsOf (topAt 40), body := .stmts (bodyOf (topAt 40)), scope := scopeOf (topAt 40), globals := 0, closure := [], defaults := .none, kwdefaults := .none } }
noncomputable def o482 (P : Params) : Obj := { cls := .type "code", data := .fields #[.str (.ofString "law") 707, .str (.ofString "law") 708, .str (.ofString "/claim/cut.py") 709, .int 293 0, .int 1 0, .int 0 0, .int 0 0, .int 3 0, .ref 371, .bool true, .int 181 0, .ref 372, .none, .none, .none, .ref 373, .int 710 0, .int 293 0, .str (.ofString "/claim/cut.py") 711] }
noncomputable def o483 (P : Params) : Obj := { cls := .type "function", data := .func { name := .ofString "law", qualname := .ofString "law", params := paramsOf (topAt 40), body := .stmts (bodyOf (topAt 40)), scope := scopeOf (topAt 40), globals := 3, closure := [], defaults := .none, kwdefaults := .none, pyModule := .str (.ofString "law_nt0015_01") 588, code := .ref 374 } }
noncomputable def tr15 (P : Params) : BT := .node (boot_o_0 P) (.node (boot_o_1 P) (.node (boot_o_3 P) (.node (boot_o_7 P) .nil .nil) (.node (o43 P) .nil .nil)) (.node (boot_o_5 P) (.node (boot_o_9 P) .nil .nil) (.node (o45 P) .nil .nil))) (.node (boot_o_2 P) (.node (boot_o_4 P) (.node (boot_o_8 P) .nil .nil) (.node (o44 P) .nil .nil)) (.node (boot_o_6 P) (.node (boot_o_10 P) .nil .nil) (.node (o46 P) .nil .nil)))
noncomputable def tr55 (P : Params) : BT := .node (boot_o_0 P) (.node (boot_o_1 P) (.node (o49 P) (.node (boot_o_7 P) (.node (o51 P) (.node (o67 P) .nil .nil) (.node (o83 P) .nil .nil)) (.node (o59 P) (.node (o75 P) .nil .nil) .nil)) (.node (o43 P) (.node (o55 P) (.node (o71 P) .nil .nil) (.node (o87 P) .nil .nil)) (.node (o63 P) (.node (o79 P) .nil .nil) .nil))) (.node (boot_o_5 P) (.node (boot_o_9 P) (.node (o53 P) (.node (o69 P) .nil .nil) (.node (o85 P) .nil .nil)) (.node (o61 P) (.node (o77 P) .nil .nil) .nil)) (.node (o45 P) (.node (o57 P) (.node (o73 P) .nil .nil) (.node (o89 P) .nil .nil)) (.node (o65 P) (.node (o81 P) .nil .nil) .nil)))) (.node (boot_o_2 P) (.node (boot_o_4 P) (.node (boot_o_8 P) (.node (o52 P) (.node (o68 P) .nil .nil) (.node (o84 P) .nil .nil)) (.node (o60 P) (.node (o76 P) .nil .nil) .nil)) (.node (o50 P) (.node (o56 P) (.node (o72 P) .nil .nil) (.node (o88 P) .nil .nil)) (.node (o64 P) (.node (o80 P) .nil .nil) .nil))) (.node (boot_o_6 P) (.node (boot_o_10 P) (.node (o54 P) (.node (o70 P) .nil .nil) (.node (o86 P) .nil .nil)) (.node (o62 P) (.node (o78 P) .nil .nil) .nil)) (.node (o46 P) (.node (o58 P) (.node (o74 P) .nil .nil) (.node (o90 P) .nil .nil)) (.node (o66 P) (.node (o82 P) .nil .nil) .nil))))
noncomputable def tr155 (P : Params) : BT := .node (boot_o_0 P) (.node (boot_o_1 P) (.node (o91 P) (.node (boot_o_7 P) (.node (o51 P) (.node (o67 P) (.node (o101 P) (.node (o165 P) .nil .nil) .nil) (.node (o133 P) .nil .nil)) (.node (o83 P) (.node (o117 P) (.node (o181 P) .nil .nil) .nil) (.node (o149 P) .nil .nil))) (.node (o59 P) (.node (o75 P) (.node (o109 P) (.node (o173 P) .nil .nil) .nil) (.node (o141 P) .nil .nil)) (.node (o93 P) (.node (o125 P) (.node (o189 P) .nil .nil) .nil) (.node (o157 P) .nil .nil)))) (.node (o43 P) (.node (o55 P) (.node (o71 P) (.node (o105 P) (.node (o169 P) .nil .nil) .nil) (.node (o137 P) .nil .nil)) (.node (o87 P) (.node (o121 P) (.node (o185 P) .nil .nil) .nil) (.node (o153 P) .nil .nil))) (.node (o63 P) (.node (o79 P) (.node (o113 P) (.node (o177 P) .nil .nil) .nil) (.node (o145 P) .nil .nil)) (.node (o97 P) (.node (o129 P) .nil .nil) (.node (o161 P) .nil .nil))))) (.node (boot_o_5 P) (.node (boot_o_9 P) (.node (o53 P) (.node (o69 P) (.node (o103 P) (.node (o167 P) .nil .nil) .nil) (.node (o135 P) .nil .nil)) (.node (o85 P) (.node (o119 P) (.node (o183 P) .nil .nil) .nil) (.node (o151 P) .nil .nil))) (.node (o61 P) (.node (o77 P) (.node (o111 P) (.node (o175 P) .nil .nil) .nil) (.node (o143 P) .nil .nil)) (.node (o95 P) (.node (o127 P) (.node (o191 P) .nil .nil) .nil) (.node (o159 P) .nil .nil)))) (.node (o45 P) (.node (o57 P) (.node (o73 P) (.node (o107 P) (.node (o171 P) .nil .nil) .nil) (.node (o139 P) .nil .nil)) (.node (o89 P) (.node (o123 P) (.node (o187 P) .nil .nil) .nil) (.node (o155 P) .nil .nil))) (.node (o65 P) (.node (o81 P) (.node (o115 P) (.node (o179 P) .nil .nil) .nil) (.node (o147 P) .nil .nil)) (.node (o99 P) (.node (o131 P) .nil .nil) (.node (o163 P) .nil .nil)))))) (.node (boot_o_2 P) (.node (boot_o_4 P) (.node (boot_o_8 P) (.node (o52 P) (.node (o68 P) (.node (o102 P) (.node (o166 P) .nil .nil) .nil) (.node (o134 P) .nil .nil)) (.node (o84 P) (.node (o118 P) (.node (o182 P) .nil .nil) .nil) (.node (o150 P) .nil .nil))) (.node (o60 P) (.node (o76 P) (.node (o110 P) (.node (o174 P) .nil .nil) .nil) (.node (o142 P) .nil .nil)) (.node (o94 P) (.node (o126 P) (.node (o190 P) .nil .nil) .nil) (.node (o158 P) .nil .nil)))) (.node (o92 P) (.node (o56 P) (.node (o72 P) (.node (o106 P) (.node (o170 P) .nil .nil) .nil) (.node (o138 P) .nil .nil)) (.node (o88 P) (.node (o122 P) (.node (o186 P) .nil .nil) .nil) (.node (o154 P) .nil .nil))) (.node (o64 P) (.node (o80 P) (.node (o114 P) (.node (o178 P) .nil .nil) .nil) (.node (o146 P) .nil .nil)) (.node (o98 P) (.node (o130 P) .nil .nil) (.node (o162 P) .nil .nil))))) (.node (boot_o_6 P) (.node (boot_o_10 P) (.node (o54 P) (.node (o70 P) (.node (o104 P) (.node (o168 P) .nil .nil) .nil) (.node (o136 P) .nil .nil)) (.node (o86 P) (.node (o120 P) (.node (o184 P) .nil .nil) .nil) (.node (o152 P) .nil .nil))) (.node (o62 P) (.node (o78 P) (.node (o112 P) (.node (o176 P) .nil .nil) .nil) (.node (o144 P) .nil .nil)) (.node (o96 P) (.node (o128 P) (.node (o192 P) .nil .nil) .nil) (.node (o160 P) .nil .nil)))) (.node (o46 P) (.node (o58 P) (.node (o74 P) (.node (o108 P) (.node (o172 P) .nil .nil) .nil) (.node (o140 P) .nil .nil)) (.node (o90 P) (.node (o124 P) (.node (o188 P) .nil .nil) .nil) (.node (o156 P) .nil .nil))) (.node (o66 P) (.node (o82 P) (.node (o116 P) (.node (o180 P) .nil .nil) .nil) (.node (o148 P) .nil .nil)) (.node (o100 P) (.node (o132 P) .nil .nil) (.node (o164 P) .nil .nil))))))
noncomputable def tr270 (P : Params) : BT := .node (boot_o_0 P) (.node (boot_o_1 P) (.node (o318 P) (.node (boot_o_7 P) (.node (o51 P) (.node (o67 P) (.node (o101 P) (.node (o165 P) (.node (o359 P) .nil .nil) .nil) (.node (o293 P) .nil .nil)) (.node (o133 P) (.node (o261 P) .nil .nil) (.node (o327 P) .nil .nil))) (.node (o83 P) (.node (o117 P) (.node (o181 P) .nil .nil) (.node (o309 P) .nil .nil)) (.node (o149 P) (.node (o277 P) .nil .nil) (.node (o343 P) .nil .nil)))) (.node (o59 P) (.node (o75 P) (.node (o109 P) (.node (o173 P) (.node (o367 P) .nil .nil) .nil) (.node (o301 P) .nil .nil)) (.node (o141 P) (.node (o269 P) .nil .nil) (.node (o335 P) .nil .nil))) (.node (o93 P) (.node (o125 P) (.node (o189 P) .nil .nil) (.node (o317 P) .nil .nil)) (.node (o157 P) (.node (o285 P) .nil .nil) (.node (o351 P) .nil .nil))))) (.node (o43 P) (.node (o55 P) (.node (o71 P) (.node (o105 P) (.node (o169 P) (.node (o363 P) .nil .nil) .nil) (.node (o297 P) .nil .nil)) (.node (o137 P) (.node (o265 P) .nil .nil) (.node (o331 P) .nil .nil))) (.node (o87 P) (.node (o121 P) (.node (o185 P) .nil .nil) (.node (o313 P) .nil .nil)) (.node (o153 P) (.node (o281 P) .nil .nil) (.node (o347 P) .nil .nil)))) (.node (o63 P) (.node (o79 P) (.node (o113 P) (.node (o177 P) (.node (o371 P) .nil .nil) .nil) (.node (o305 P) .nil .nil)) (.node (o145 P) (.node (o273 P) .nil .nil) (.node (o339 P) .nil .nil))) (.node (o97 P) (.node (o129 P) (.node (o257 P) .nil .nil) (.node (o323 P) .nil .nil)) (.node (o161 P) (.node (o289 P) .nil .nil) (.node (o355 P) .nil .nil)))))) (.node (boot_o_5 P) (.node (boot_o_9 P) (.node (o53 P) (.node (o69 P) (.node (o103 P) (.node (o167 P) (.node (o361 P) .nil .nil) .nil) (.node (o295 P) .nil .nil)) (.node (o135 P) (.node (o263 P) .nil .nil) (.node (o329 P) .nil .nil))) (.node (o85 P) (.node (o119 P) (.node (o183 P) .nil .nil) (.node (o311 P) .nil .nil)) (.node (o151 P) (.node (o279 P) .nil .nil) (.node (o345 P) .nil .nil)))) (.node (o61 P) (.node (o77 P) (.node (o111 P) (.node (o175 P) (.node (o369 P) .nil .nil) .nil) (.node (o303 P) .nil .nil)) (.node (o143 P) (.node (o271 P) .nil .nil) (.node (o337 P) .nil .nil))) (.node (o95 P) (.node (o127 P) (.node (o191 P) .nil .nil) (.node (o321 P) .nil .nil)) (.node (o159 P) (.node (o287 P) .nil .nil) (.node (o353 P) .nil .nil))))) (.node (o45 P) (.node (o57 P) (.node (o73 P) (.node (o107 P) (.node (o171 P) (.node (o365 P) .nil .nil) .nil) (.node (o299 P) .nil .nil)) (.node (o139 P) (.node (o267 P) .nil .nil) (.node (o333 P) .nil .nil))) (.node (o89 P) (.node (o123 P) (.node (o187 P) .nil .nil) (.node (o315 P) .nil .nil)) (.node (o155 P) (.node (o283 P) .nil .nil) (.node (o349 P) .nil .nil)))) (.node (o65 P) (.node (o81 P) (.node (o115 P) (.node (o179 P) (.node (o373 P) .nil .nil) .nil) (.node (o307 P) .nil .nil)) (.node (o147 P) (.node (o275 P) .nil .nil) (.node (o341 P) .nil .nil))) (.node (o99 P) (.node (o131 P) (.node (o259 P) .nil .nil) (.node (o325 P) .nil .nil)) (.node (o163 P) (.node (o291 P) .nil .nil) (.node (o357 P) .nil .nil))))))) (.node (boot_o_2 P) (.node (boot_o_4 P) (.node (boot_o_8 P) (.node (o52 P) (.node (o68 P) (.node (o102 P) (.node (o166 P) (.node (o360 P) .nil .nil) .nil) (.node (o294 P) .nil .nil)) (.node (o134 P) (.node (o262 P) .nil .nil) (.node (o328 P) .nil .nil))) (.node (o84 P) (.node (o118 P) (.node (o182 P) .nil .nil) (.node (o310 P) .nil .nil)) (.node (o150 P) (.node (o278 P) .nil .nil) (.node (o344 P) .nil .nil)))) (.node (o60 P) (.node (o76 P) (.node (o110 P) (.node (o174 P) (.node (o368 P) .nil .nil) .nil) (.node (o302 P) .nil .nil)) (.node (o142 P) (.node (o270 P) .nil .nil) (.node (o336 P) .nil .nil))) (.node (o94 P) (.node (o126 P) (.node (o190 P) .nil .nil) (.node (o320 P) .nil .nil)) (.node (o158 P) (.node (o286 P) .nil .nil) (.node (o352 P) .nil .nil))))) (.node (o319 P) (.node (o56 P) (.node (o72 P) (.node (o106 P) (.node (o170 P) (.node (o364 P) .nil .nil) .nil) (.node (o298 P) .nil .nil)) (.node (o138 P) (.node (o266 P) .nil .nil) (.node (o332 P) .nil .nil))) (.node (o88 P) (.node (o122 P) (.node (o186 P) .nil .nil) (.node (o314 P) .nil .nil)) (.node (o154 P) (.node (o282 P) .nil .nil) (.node (o348 P) .nil .nil)))) (.node (o64 P) (.node (o80 P) (.node (o114 P) (.node (o178 P) (.node (o372 P) .nil .nil) .nil) (.node (o306 P) .nil .nil)) (.node (o146 P) (.node (o274 P) .nil .nil) (.node (o340 P) .nil .nil))) (.node (o98 P) (.node (o130 P) (.node (o258 P) .nil .nil) (.node (o324 P) .nil .nil)) (.node (o162 P) (.node (o290 P) .nil .nil) (.node (o356 P) .nil .nil)))))) (.node (boot_o_6 P) (.node (boot_o_10 P) (.node (o54 P) (.node (o70 P) (.node (o104 P) (.node (o168 P) (.node (o362 P) .nil .nil) .nil) (.node (o296 P) .nil .nil)) (.node (o136 P) (.node (o264 P) .nil .nil) (.node (o330 P) .nil .nil))) (.node (o86 P) (.node (o120 P) (.node (o184 P) .nil .nil) (.node (o312 P) .nil .nil)) (.node (o152 P) (.node (o280 P) .nil .nil) (.node (o346 P) .nil .nil)))) (.node (o62 P) (.node (o78 P) (.node (o112 P) (.node (o176 P) (.node (o370 P) .nil .nil) .nil) (.node (o304 P) .nil .nil)) (.node (o144 P) (.node (o272 P) .nil .nil) (.node (o338 P) .nil .nil))) (.node (o96 P) (.node (o128 P) (.node (o192 P) .nil .nil) (.node (o322 P) .nil .nil)) (.node (o160 P) (.node (o288 P) .nil .nil) (.node (o354 P) .nil .nil))))) (.node (o46 P) (.node (o58 P) (.node (o74 P) (.node (o108 P) (.node (o172 P) (.node (o366 P) .nil .nil) .nil) (.node (o300 P) .nil .nil)) (.node (o140 P) (.node (o268 P) .nil .nil) (.node (o334 P) .nil .nil))) (.node (o90 P) (.node (o124 P) (.node (o188 P) .nil .nil) (.node (o316 P) .nil .nil)) (.node (o156 P) (.node (o284 P) .nil .nil) (.node (o350 P) .nil .nil)))) (.node (o66 P) (.node (o82 P) (.node (o116 P) (.node (o180 P) .nil .nil) (.node (o308 P) .nil .nil)) (.node (o148 P) (.node (o276 P) .nil .nil) (.node (o342 P) .nil .nil))) (.node (o100 P) (.node (o132 P) (.node (o260 P) .nil .nil) (.node (o326 P) .nil .nil)) (.node (o164 P) (.node (o292 P) .nil .nil) (.node (o358 P) .nil .nil)))))))
noncomputable def tr376 (P : Params) : BT := .node (boot_o_0 P) (.node (boot_o_1 P) (.node (o444 P) (.node (boot_o_7 P) (.node (o51 P) (.node (o67 P) (.node (o101 P) (.node (o165 P) (.node (o359 P) .nil .nil) .nil) (.node (o293 P) (.node (o425 P) .nil .nil) .nil)) (.node (o133 P) (.node (o261 P) (.node (o393 P) .nil .nil) .nil) (.node (o327 P) (.node (o459 P) .nil .nil) .nil))) (.node (o83 P) (.node (o117 P) (.node (o181 P) (.node (o377 P) .nil .nil) .nil) (.node (o309 P) (.node (o441 P) .nil .nil) .nil)) (.node (o149 P) (.node (o277 P) (.node (o409 P) .nil .nil) .nil) (.node (o343 P) (.node (o475 P) .nil .nil) .nil)))) (.node (o59 P) (.node (o75 P) (.node (o109 P) (.node (o173 P) (.node (o367 P) .nil .nil) .nil) (.node (o301 P) (.node (o433 P) .nil .nil) .nil)) (.node (o141 P) (.node (o269 P) (.node (o401 P) .nil .nil) .nil) (.node (o335 P) (.node (o467 P) .nil .nil) .nil))) (.node (o93 P) (.node (o125 P) (.node (o189 P) (.node (o385 P) .nil .nil) .nil) (.node (o317 P) (.node (o451 P) .nil .nil) .nil)) (.node (o157 P) (.node (o285 P) (.node (o417 P) .nil .nil) .nil) (.node (o351 P) (.node (o483 P) .nil .nil) .nil))))) (.node (o43 P) (.node (o55 P) (.node (o71 P) (.node (o105 P) (.node (o169 P) (.node (o363 P) .nil .nil) .nil) (.node (o297 P) (.node (o429 P) .nil .nil) .nil)) (.node (o137 P) (.node (o265 P) (.node (o397 P) .nil .nil) .nil) (.node (o331 P) (.node (o463 P) .nil .nil) .nil))) (.node (o87 P) (.node (o121 P) (.node (o185 P) (.node (o381 P) .nil .nil) .nil) (.node (o313 P) (.node (o447 P) .nil .nil) .nil)) (.node (o153 P) (.node (o281 P) (.node (o413 P) .nil .nil) .nil) (.node (o347 P) (.node (o479 P) .nil .nil) .nil)))) (.node (o63 P) (.node (o79 P) (.node (o113 P) (.node (o177 P) (.node (o371 P) .nil .nil) .nil) (.node (o305 P) (.node (o437 P) .nil .nil) .nil)) (.node (o145 P) (.node (o273 P) (.node (o405 P) .nil .nil) .nil) (.node (o339 P) (.node (o471 P) .nil .nil) .nil))) (.node (o97 P) (.node (o129 P) (.node (o257 P) (.node (o389 P) .nil .nil) .nil) (.node (o323 P) (.node (o455 P) .nil .nil) .nil)) (.node (o161 P) (.node (o289 P) (.node (o421 P) .nil .nil) .nil) (.node (o355 P) .nil .nil)))))) (.node (boot_o_5 P) (.node (boot_o_9 P) (.node (o53 P) (.node (o69 P) (.node (o103 P) (.node (o167 P) (.node (o361 P) .nil .nil) .nil) (.node (o295 P) (.node (o427 P) .nil .nil) .nil)) (.node (o135 P) (.node (o263 P) (.node (o395 P) .nil .nil) .nil) (.node (o329 P) (.node (o461 P) .nil .nil) .nil))) (.node (o85 P) (.node (o119 P) (.node (o183 P) (.node (o379 P) .nil .nil) .nil) (.node (o311 P) (.node (o443 P) .nil .nil) .nil)) (.node (o151 P) (.node (o279 P) (.node (o411 P) .nil .nil) .nil) (.node (o345 P) (.node (o477 P) .nil .nil) .nil)))) (.node (o61 P) (.node (o77 P) (.node (o111 P) (.node (o175 P) (.node (o369 P) .nil .nil) .nil) (.node (o303 P) (.node (o435 P) .nil .nil) .nil)) (.node (o143 P) (.node (o271 P) (.node (o403 P) .nil .nil) .nil) (.node (o337 P) (.node (o469 P) .nil .nil) .nil))) (.node (o95 P) (.node (o127 P) (.node (o191 P) (.node (o387 P) .nil .nil) .nil) (.node (o321 P) (.node (o453 P) .nil .nil) .nil)) (.node (o159 P) (.node (o287 P) (.node (o419 P) .nil .nil) .nil) (.node (o353 P) .nil .nil))))) (.node (o45 P) (.node (o57 P) (.node (o73 P) (.node (o107 P) (.node (o171 P) (.node (o365 P) .nil .nil) .nil) (.node (o299 P) (.node (o431 P) .nil .nil) .nil)) (.node (o139 P) (.node (o267 P) (.node (o399 P) .nil .nil) .nil) (.node (o333 P) (.node (o465 P) .nil .nil) .nil))) (.node (o89 P) (.node (o123 P) (.node (o187 P) (.node (o383 P) .nil .nil) .nil) (.node (o315 P) (.node (o449 P) .nil .nil) .nil)) (.node (o155 P) (.node (o283 P) (.node (o415 P) .nil .nil) .nil) (.node (o349 P) (.node (o481 P) .nil .nil) .nil)))) (.node (o65 P) (.node (o81 P) (.node (o115 P) (.node (o179 P) (.node (o373 P) .nil .nil) .nil) (.node (o307 P) (.node (o439 P) .nil .nil) .nil)) (.node (o147 P) (.node (o275 P) (.node (o407 P) .nil .nil) .nil) (.node (o341 P) (.node (o473 P) .nil .nil) .nil))) (.node (o99 P) (.node (o131 P) (.node (o259 P) (.node (o391 P) .nil .nil) .nil) (.node (o325 P) (.node (o457 P) .nil .nil) .nil)) (.node (o163 P) (.node (o291 P) (.node (o423 P) .nil .nil) .nil) (.node (o357 P) .nil .nil))))))) (.node (boot_o_2 P) (.node (boot_o_4 P) (.node (boot_o_8 P) (.node (o52 P) (.node (o68 P) (.node (o102 P) (.node (o166 P) (.node (o360 P) .nil .nil) .nil) (.node (o294 P) (.node (o426 P) .nil .nil) .nil)) (.node (o134 P) (.node (o262 P) (.node (o394 P) .nil .nil) .nil) (.node (o328 P) (.node (o460 P) .nil .nil) .nil))) (.node (o84 P) (.node (o118 P) (.node (o182 P) (.node (o378 P) .nil .nil) .nil) (.node (o310 P) (.node (o442 P) .nil .nil) .nil)) (.node (o150 P) (.node (o278 P) (.node (o410 P) .nil .nil) .nil) (.node (o344 P) (.node (o476 P) .nil .nil) .nil)))) (.node (o60 P) (.node (o76 P) (.node (o110 P) (.node (o174 P) (.node (o368 P) .nil .nil) .nil) (.node (o302 P) (.node (o434 P) .nil .nil) .nil)) (.node (o142 P) (.node (o270 P) (.node (o402 P) .nil .nil) .nil) (.node (o336 P) (.node (o468 P) .nil .nil) .nil))) (.node (o94 P) (.node (o126 P) (.node (o190 P) (.node (o386 P) .nil .nil) .nil) (.node (o320 P) (.node (o452 P) .nil .nil) .nil)) (.node (o158 P) (.node (o286 P) (.node (o418 P) .nil .nil) .nil) (.node (o352 P) .nil .nil))))) (.node (o445 P) (.node (o56 P) (.node (o72 P) (.node (o106 P) (.node (o170 P) (.node (o364 P) .nil .nil) .nil) (.node (o298 P) (.node (o430 P) .nil .nil) .nil)) (.node (o138 P) (.node (o266 P) (.node (o398 P) .nil .nil) .nil) (.node (o332 P) (.node (o464 P) .nil .nil) .nil))) (.node (o88 P) (.node (o122 P) (.node (o186 P) (.node (o382 P) .nil .nil) .nil) (.node (o314 P) (.node (o448 P) .nil .nil) .nil)) (.node (o154 P) (.node (o282 P) (.node (o414 P) .nil .nil) .nil) (.node (o348 P) (.node (o480 P) .nil .nil) .nil)))) (.node (o64 P) (.node (o80 P) (.node (o114 P) (.node (o178 P) (.node (o372 P) .nil .nil) .nil) (.node (o306 P) (.node (o438 P) .nil .nil) .nil)) (.node (o146 P) (.node (o274 P) (.node (o406 P) .nil .nil) .nil) (.node (o340 P) (.node (o472 P) .nil .nil) .nil))) (.node (o98 P) (.node (o130 P) (.node (o258 P) (.node (o390 P) .nil .nil) .nil) (.node (o324 P) (.node (o456 P) .nil .nil) .nil)) (.node (o162 P) (.node (o290 P) (.node (o422 P) .nil .nil) .nil) (.node (o356 P) .nil .nil)))))) (.node (boot_o_6 P) (.node (boot_o_10 P) (.node (o54 P) (.node (o70 P) (.node (o104 P) (.node (o168 P) (.node (o362 P) .nil .nil) .nil) (.node (o296 P) (.node (o428 P) .nil .nil) .nil)) (.node (o136 P) (.node (o264 P) (.node (o396 P) .nil .nil) .nil) (.node (o330 P) (.node (o462 P) .nil .nil) .nil))) (.node (o86 P) (.node (o120 P) (.node (o184 P) (.node (o380 P) .nil .nil) .nil) (.node (o312 P) (.node (o446 P) .nil .nil) .nil)) (.node (o152 P) (.node (o280 P) (.node (o412 P) .nil .nil) .nil) (.node (o346 P) (.node (o478 P) .nil .nil) .nil)))) (.node (o62 P) (.node (o78 P) (.node (o112 P) (.node (o176 P) (.node (o370 P) .nil .nil) .nil) (.node (o304 P) (.node (o436 P) .nil .nil) .nil)) (.node (o144 P) (.node (o272 P) (.node (o404 P) .nil .nil) .nil) (.node (o338 P) (.node (o470 P) .nil .nil) .nil))) (.node (o96 P) (.node (o128 P) (.node (o192 P) (.node (o388 P) .nil .nil) .nil) (.node (o322 P) (.node (o454 P) .nil .nil) .nil)) (.node (o160 P) (.node (o288 P) (.node (o420 P) .nil .nil) .nil) (.node (o354 P) .nil .nil))))) (.node (o46 P) (.node (o58 P) (.node (o74 P) (.node (o108 P) (.node (o172 P) (.node (o366 P) .nil .nil) .nil) (.node (o300 P) (.node (o432 P) .nil .nil) .nil)) (.node (o140 P) (.node (o268 P) (.node (o400 P) .nil .nil) .nil) (.node (o334 P) (.node (o466 P) .nil .nil) .nil))) (.node (o90 P) (.node (o124 P) (.node (o188 P) (.node (o384 P) .nil .nil) .nil) (.node (o316 P) (.node (o450 P) .nil .nil) .nil)) (.node (o156 P) (.node (o284 P) (.node (o416 P) .nil .nil) .nil) (.node (o350 P) (.node (o482 P) .nil .nil) .nil)))) (.node (o66 P) (.node (o82 P) (.node (o116 P) (.node (o180 P) (.node (o376 P) .nil .nil) .nil) (.node (o308 P) (.node (o440 P) .nil .nil) .nil)) (.node (o148 P) (.node (o276 P) (.node (o408 P) .nil .nil) .nil) (.node (o342 P) (.node (o474 P) .nil .nil) .nil))) (.node (o100 P) (.node (o132 P) (.node (o260 P) (.node (o392 P) .nil .nil) .nil) (.node (o326 P) (.node (o458 P) .nil .nil) .nil)) (.node (o164 P) (.node (o292 P) (.node (o424 P) .nil .nil) .nil) (.node (o358 P) .nil .nil)))))))
noncomputable def hHeap (P : Params) : Heap := ⟨⟨[boot_o_0 P, boot_o_1 P, boot_o_2 P, o444 P, boot_o_4 P, boot_o_5 P, boot_o_6 P, boot_o_7 P, boot_o_8 P, boot_o_9 P, boot_o_10 P, o43 P, o445 P, o45 P, o46 P, o51 P, o52 P, o53 P, o54 P, o55 P, o56 P, o57 P, o58 P, o59 P, o60 P, o61 P, o62 P, o63 P, o64 P, o65 P, o66 P, o67 P, o68 P, o69 P, o70 P, o71 P, o72 P, o73 P, o74 P, o75 P, o76 P, o77 P, o78 P, o79 P, o80 P, o81 P, o82 P, o83 P, o84 P, o85 P, o86 P, o87 P, o88 P, o89 P, o90 P, o93 P, o94 P, o95 P, o96 P, o97 P, o98 P, o99 P, o100 P, o101 P, o102 P, o103 P, o104 P, o105 P, o106 P, o107 P, o108 P, o109 P, o110 P, o111 P, o112 P, o113 P, o114 P, o115 P, o116 P, o117 P, o118 P, o119 P, o120 P, o121 P, o122 P, o123 P, o124 P, o125 P, o126 P, o127 P, o128 P, o129 P, o130 P, o131 P, o132 P, o133 P, o134 P, o135 P, o136 P, o137 P, o138 P, o139 P, o140 P, o141 P, o142 P, o143 P, o144 P, o145 P, o146 P, o147 P, o148 P, o149 P, o150 P, o151 P, o152 P, o153 P, o154 P, o155 P, o156 P, o157 P, o158 P, o159 P, o160 P, o161 P, o162 P, o163 P, o164 P, o165 P, o166 P, o167 P, o168 P, o169 P, o170 P, o171 P, o172 P, o173 P, o174 P, o175 P, o176 P, o177 P, o178 P, o179 P, o180 P, o181 P, o182 P, o183 P, o184 P, o185 P, o186 P, o187 P, o188 P, o189 P, o190 P, o191 P, o192 P, o257 P, o258 P, o259 P, o260 P, o261 P, o262 P, o263 P, o264 P, o265 P, o266 P, o267 P, o268 P, o269 P, o270 P, o271 P, o272 P, o273 P, o274 P, o275 P, o276 P, o277 P, o278 P, o279 P, o280 P, o281 P, o282 P, o283 P, o284 P, o285 P, o286 P, o287 P, o288 P, o289 P, o290 P, o291 P, o292 P, o293 P, o294 P, o295 P, o296 P, o297 P, o298 P, o299 P, o300 P, o301 P, o302 P, o303 P, o304 P, o305 P, o306 P, o307 P, o308 P, o309 P, o310 P, o311 P, o312 P, o313 P, o314 P, o315 P, o316 P, o317 P, o320 P, o321 P, o322 P, o323 P, o324 P, o325 P, o326 P, o327 P, o328 P, o329 P, o330 P, o331 P, o332 P, o333 P, o334 P, o335 P, o336 P, o337 P, o338 P, o339 P, o340 P, o341 P, o342 P, o343 P, o344 P, o345 P, o346 P, o347 P, o348 P, o349 P, o350 P, o351 P, o352 P, o353 P, o354 P, o355 P, o356 P, o357 P, o358 P, o359 P, o360 P, o361 P, o362 P, o363 P, o364 P, o365 P, o366 P, o367 P, o368 P, o369 P, o370 P, o371 P, o372 P, o373 P, o376 P, o377 P, o378 P, o379 P, o380 P, o381 P, o382 P, o383 P, o384 P, o385 P, o386 P, o387 P, o388 P, o389 P, o390 P, o391 P, o392 P, o393 P, o394 P, o395 P, o396 P, o397 P, o398 P, o399 P, o400 P, o401 P, o402 P, o403 P, o404 P, o405 P, o406 P, o407 P, o408 P, o409 P, o410 P, o411 P, o412 P, o413 P, o414 P, o415 P, o416 P, o417 P, o418 P, o419 P, o420 P, o421 P, o422 P, o423 P, o424 P, o425 P, o426 P, o427 P, o428 P, o429 P, o430 P, o431 P, o432 P, o433 P, o434 P, o435 P, o436 P, o437 P, o438 P, o439 P, o440 P, o441 P, o442 P, o443 P, o446 P, o447 P, o448 P, o449 P, o450 P, o451 P, o452 P, o453 P, o454 P, o455 P, o456 P, o457 P, o458 P, o459 P, o460 P, o461 P, o462 P, o463 P, o464 P, o465 P, o466 P, o467 P, o468 P, o469 P, o470 P, o471 P, o472 P, o473 P, o474 P, o475 P, o476 P, o477 P, o478 P, o479 P, o480 P, o481 P, o482 P, o483 P]⟩, {}⟩
noncomputable def hK (P : Params) : Frag := [(nat_lit 2, boot_o_2 P), (nat_lit 3, o444 P), (nat_lit 15, o51 P), (nat_lit 17, o53 P), (nat_lit 18, o54 P), (nat_lit 20, o56 P), (nat_lit 21, o57 P), (nat_lit 22, o58 P), (nat_lit 24, o60 P), (nat_lit 25, o61 P), (nat_lit 27, o63 P), (nat_lit 28, o64 P), (nat_lit 29, o65 P), (nat_lit 31, o67 P), (nat_lit 32, o68 P), (nat_lit 34, o70 P), (nat_lit 35, o71 P), (nat_lit 36, o72 P), (nat_lit 39, o75 P), (nat_lit 40, o76 P), (nat_lit 41, o77 P), (nat_lit 43, o79 P), (nat_lit 44, o80 P), (nat_lit 46, o82 P), (nat_lit 47, o83 P), (nat_lit 48, o84 P), (nat_lit 50, o86 P), (nat_lit 51, o87 P), (nat_lit 53, o89 P), (nat_lit 54, o90 P), (nat_lit 62, o100 P), (nat_lit 63, o101 P), (nat_lit 65, o103 P), (nat_lit 66, o104 P), (nat_lit 68, o106 P), (nat_lit 69, o107 P), (nat_lit 70, o108 P), (nat_lit 72, o110 P), (nat_lit 73, o111 P), (nat_lit 75, o113 P), (nat_lit 76, o114 P), (nat_lit 77, o115 P), (nat_lit 78, o116 P), (nat_lit 79, o117 P), (nat_lit 80, o118 P), (nat_lit 82, o120 P), (nat_lit 83, o121 P), (nat_lit 85, o123 P), (nat_lit 86, o124 P), (nat_lit 87, o125 P), (nat_lit 90, o128 P), (nat_lit 91, o129 P), (nat_lit 92, o130 P), (nat_lit 94, o132 P), (nat_lit 95, o133 P), (nat_lit 97, o135 P), (nat_lit 98, o136 P), (nat_lit 99, o137 P), (nat_lit 101, o139 P), (nat_lit 102, o140 P), (nat_lit 104, o142 P), (nat_lit 105, o143 P), (nat_lit 106, o144 P), (nat_lit 108, o146 P), (nat_lit 109, o147 P), (nat_lit 111, o149 P), (nat_lit 112, o150 P), (nat_lit 113, o151 P), (nat_lit 115, o153 P), (nat_lit 116, o154 P), (nat_lit 118, o156 P), (nat_lit 119, o157 P), (nat_lit 120, o158 P), (nat_lit 122, o160 P), (nat_lit 123, o161 P), (nat_lit 125, o163 P), (nat_lit 126, o164 P), (nat_lit 127, o165 P), (nat_lit 129, o167 P), (nat_lit 130, o168 P), (nat_lit 132, o170 P), (nat_lit 133, o171 P), (nat_lit 134, o172 P), (nat_lit 136, o174 P), (nat_lit 137, o175 P), (nat_lit 139, o177 P), (nat_lit 140, o178 P), (nat_lit 141, o179 P), (nat_lit 143, o181 P), (nat_lit 144, o182 P), (nat_lit 146, o184 P), (nat_lit 147, o185 P), (nat_lit 148, o186 P), (nat_lit 149, o187 P), (nat_lit 150, o188 P), (nat_lit 151, o189 P), (nat_lit 152, o190 P), (nat_lit 155, o257 P), (nat_lit 158, o260 P), (nat_lit 159, o261 P), (nat_lit 160, o262 P), (nat_lit 162, o264 P), (nat_lit 163, o265 P), (nat_lit 165, o267 P), (nat_lit 166, o268 P), (nat_lit 167, o269 P), (nat_lit 169, o271 P), (nat_lit 170, o272 P), (nat_lit 172, o274 P), (nat_lit 173, o275 P), (nat_lit 174, o276 P), (nat_lit 176, o278 P), (nat_lit 177, o279 P), (nat_lit 179, o281 P), (nat_lit 180, o282 P), (nat_lit 181, o283 P), (nat_lit 183, o285 P), (nat_lit 184, o286 P), (nat_lit 186, o288 P), (nat_lit 187, o289 P), (nat_lit 188, o290 P), (nat_lit 190, o292 P), (nat_lit 191, o293 P), (nat_lit 193, o295 P), (nat_lit 194, o296 P), (nat_lit 195, o297 P), (nat_lit 197, o299 P), (nat_lit 198, o300 P), (nat_lit 200, o302 P), (nat_lit 201, o303 P), (nat_lit 202, o304 P), (nat_lit 204, o306 P), (nat_lit 205, o307 P), (nat_lit 207, o309 P), (nat_lit 208, o310 P), (nat_lit 209, o311 P), (nat_lit 211, o313 P), (nat_lit 212, o314 P), (nat_lit 214, o316 P), (nat_lit 215, o317 P), (nat_lit 223, o327 P), (nat_lit 225, o329 P), (nat_lit 226, o330 P), (nat_lit 228, o332 P), (nat_lit 229, o333 P), (nat_lit 230, o334 P), (nat_lit 232, o336 P), (nat_lit 233, o337 P), (nat_lit 235, o339 P), (nat_lit 236, o340 P), (nat_lit 237, o341 P), (nat_lit 239, o343 P), (nat_lit 240, o344 P), (nat_lit 242, o346 P), (nat_lit 243, o347 P), (nat_lit 244, o348 P), (nat_lit 247, o351 P), (nat_lit 248, o352 P), (nat_lit 249, o353 P), (nat_lit 251, o355 P), (nat_lit 252, o356 P), (nat_lit 254, o358 P), (nat_lit 255, o359 P), (nat_lit 256, o360 P), (nat_lit 257, o361 P), (nat_lit 258, o362 P), (nat_lit 259, o363 P), (nat_lit 260, o364 P), (nat_lit 263, o367 P), (nat_lit 265, o369 P), (nat_lit 266, o370 P), (nat_lit 268, o372 P), (nat_lit 269, o373 P), (nat_lit 270, o376 P), (nat_lit 272, o378 P), (nat_lit 273, o379 P), (nat_lit 275, o381 P), (nat_lit 276, o382 P), (nat_lit 277, o383 P), (nat_lit 280, o386 P), (nat_lit 281, o387 P), (nat_lit 282, o388 P), (nat_lit 285, o391 P), (nat_lit 286, o392 P), (nat_lit 287, o393 P), (nat_lit 289, o395 P), (nat_lit 290, o396 P), (nat_lit 292, o398 P), (nat_lit 293, o399 P), (nat_lit 294, o400 P), (nat_lit 296, o402 P), (nat_lit 297, o403 P), (nat_lit 299, o405 P), (nat_lit 300, o406 P), (nat_lit 301, o407 P), (nat_lit 302, o408 P), (nat_lit 304, o410 P), (nat_lit 305, o411 P), (nat_lit 307, o413 P), (nat_lit 308, o414 P), (nat_lit 309, o415 P), (nat_lit 311, o417 P), (nat_lit 312, o418 P), (nat_lit 314, o420 P), (nat_lit 315, o421 P), (nat_lit 316, o422 P), (nat_lit 319, o425 P), (nat_lit 320, o426 P), (nat_lit 321, o427 P), (nat_lit 324, o430 P), (nat_lit 325, o431 P), (nat_lit 326, o432 P), (nat_lit 329, o435 P), (nat_lit 330, o436 P), (nat_lit 331, o437 P), (nat_lit 333, o439 P), (nat_lit 334, o440 P), (nat_lit 336, o442 P), (nat_lit 337, o443 P), (nat_lit 338, o446 P), (nat_lit 340, o448 P), (nat_lit 341, o449 P), (nat_lit 343, o451 P), (nat_lit 344, o452 P), (nat_lit 345, o453 P), (nat_lit 347, o455 P), (nat_lit 348, o456 P), (nat_lit 350, o458 P), (nat_lit 351, o459 P), (nat_lit 352, o460 P), (nat_lit 354, o462 P), (nat_lit 355, o463 P), (nat_lit 357, o465 P), (nat_lit 358, o466 P), (nat_lit 359, o467 P), (nat_lit 362, o470 P), (nat_lit 363, o471 P), (nat_lit 364, o472 P), (nat_lit 366, o474 P), (nat_lit 367, o475 P), (nat_lit 369, o477 P), (nat_lit 370, o478 P), (nat_lit 371, o479 P), (nat_lit 374, o482 P), (nat_lit 375, o483 P)]
noncomputable def hA : List Nat := [nat_lit 2, nat_lit 3, nat_lit 15, nat_lit 17, nat_lit 18, nat_lit 20, nat_lit 21, nat_lit 22, nat_lit 24, nat_lit 25, nat_lit 27, nat_lit 28, nat_lit 29, nat_lit 31, nat_lit 32, nat_lit 34, nat_lit 35, nat_lit 36, nat_lit 39, nat_lit 40, nat_lit 41, nat_lit 43, nat_lit 44, nat_lit 46, nat_lit 47, nat_lit 48, nat_lit 50, nat_lit 51, nat_lit 53, nat_lit 54, nat_lit 62, nat_lit 63, nat_lit 65, nat_lit 66, nat_lit 68, nat_lit 69, nat_lit 70, nat_lit 72, nat_lit 73, nat_lit 75, nat_lit 76, nat_lit 77, nat_lit 78, nat_lit 79, nat_lit 80, nat_lit 82, nat_lit 83, nat_lit 85, nat_lit 86, nat_lit 87, nat_lit 90, nat_lit 91, nat_lit 92, nat_lit 94, nat_lit 95, nat_lit 97, nat_lit 98, nat_lit 99, nat_lit 101, nat_lit 102, nat_lit 104, nat_lit 105, nat_lit 106, nat_lit 108, nat_lit 109, nat_lit 111, nat_lit 112, nat_lit 113, nat_lit 115, nat_lit 116, nat_lit 118, nat_lit 119, nat_lit 120, nat_lit 122, nat_lit 123, nat_lit 125, nat_lit 126, nat_lit 127, nat_lit 129, nat_lit 130, nat_lit 132, nat_lit 133, nat_lit 134, nat_lit 136, nat_lit 137, nat_lit 139, nat_lit 140, nat_lit 141, nat_lit 143, nat_lit 144, nat_lit 146, nat_lit 147, nat_lit 148, nat_lit 149, nat_lit 150, nat_lit 151, nat_lit 152, nat_lit 155, nat_lit 158, nat_lit 159, nat_lit 160, nat_lit 162, nat_lit 163, nat_lit 165, nat_lit 166, nat_lit 167, nat_lit 169, nat_lit 170, nat_lit 172, nat_lit 173, nat_lit 174, nat_lit 176, nat_lit 177, nat_lit 179, nat_lit 180, nat_lit 181, nat_lit 183, nat_lit 184, nat_lit 186, nat_lit 187, nat_lit 188, nat_lit 190, nat_lit 191, nat_lit 193, nat_lit 194, nat_lit 195, nat_lit 197, nat_lit 198, nat_lit 200, nat_lit 201, nat_lit 202, nat_lit 204, nat_lit 205, nat_lit 207, nat_lit 208, nat_lit 209, nat_lit 211, nat_lit 212, nat_lit 214, nat_lit 215, nat_lit 223, nat_lit 225, nat_lit 226, nat_lit 228, nat_lit 229, nat_lit 230, nat_lit 232, nat_lit 233, nat_lit 235, nat_lit 236, nat_lit 237, nat_lit 239, nat_lit 240, nat_lit 242, nat_lit 243, nat_lit 244, nat_lit 247, nat_lit 248, nat_lit 249, nat_lit 251, nat_lit 252, nat_lit 254, nat_lit 255, nat_lit 256, nat_lit 257, nat_lit 258, nat_lit 259, nat_lit 260, nat_lit 263, nat_lit 265, nat_lit 266, nat_lit 268, nat_lit 269, nat_lit 270, nat_lit 272, nat_lit 273, nat_lit 275, nat_lit 276, nat_lit 277, nat_lit 280, nat_lit 281, nat_lit 282, nat_lit 285, nat_lit 286, nat_lit 287, nat_lit 289, nat_lit 290, nat_lit 292, nat_lit 293, nat_lit 294, nat_lit 296, nat_lit 297, nat_lit 299, nat_lit 300, nat_lit 301, nat_lit 302, nat_lit 304, nat_lit 305, nat_lit 307, nat_lit 308, nat_lit 309, nat_lit 311, nat_lit 312, nat_lit 314, nat_lit 315, nat_lit 316, nat_lit 319, nat_lit 320, nat_lit 321, nat_lit 324, nat_lit 325, nat_lit 326, nat_lit 329, nat_lit 330, nat_lit 331, nat_lit 333, nat_lit 334, nat_lit 336, nat_lit 337, nat_lit 338, nat_lit 340, nat_lit 341, nat_lit 343, nat_lit 344, nat_lit 345, nat_lit 347, nat_lit 348, nat_lit 350, nat_lit 351, nat_lit 352, nat_lit 354, nat_lit 355, nat_lit 357, nat_lit 358, nat_lit 359, nat_lit 362, nat_lit 363, nat_lit 364, nat_lit 366, nat_lit 367, nat_lit 369, nat_lit 370, nat_lit 371, nat_lit 374, nat_lit 375]
noncomputable def vw : Program := { PySem.Challenge.pw_nt0015_01 with main := { PySem.Challenge.pw_nt0015_01.main with body := [topAt 0, topAt 2, topAt 3, topAt 5, topAt 6, topAt 7, topAt 8, topAt 9, topAt 10, topAt 11, topAt 12, topAt 13, topAt 14, topAt 15, topAt 16, topAt 17, topAt 18, topAt 19, topAt 20, topAt 21, topAt 22, topAt 23, topAt 24, topAt 25, topAt 26, topAt 28, topAt 29, topAt 30, topAt 31, topAt 32, topAt 33, topAt 34, topAt 35, topAt 36, topAt 37, topAt 38, topAt 39, topAt 40] } }
theorem hA_is (P : Params) : hA = (hK P).map (fun x => x.1) := by kernel_rfl
noncomputable abbrev hH : Hook := kmHook hK hA hA_is [365, 360]
noncomputable def lv0 : List (Str × WData) := [("RANGE_END", .int 1114112)]
noncomputable def env0 : Env := { scope := PW.main.scope, locals := mainNs, globals := mainNs, cells := [], code := .ref 13, frame := some 14 }
noncomputable def body0 : List Stmt := behindTheImports PW
noncomputable abbrev cd0 : Code := .body body0 env0
noncomputable def q0 : Pos := ⟨0, 0, 0, 0⟩
noncomputable def ST (t : BT) (n k : Nat) (os : OsState) : SharedT := ⟨t, n, {}, #[], {}, k, os⟩
noncomputable def g1 : List Stmt := [topAt 0, topAt 1, topAt 2, topAt 3, topAt 4, topAt 5, topAt 6, topAt 7, topAt 8, topAt 9]
noncomputable def g2 : List Stmt := [topAt 10]
noncomputable def g3 : List Stmt := [topAt 11, topAt 12, topAt 13, topAt 14, topAt 15, topAt 16, topAt 17, topAt 18, topAt 19, topAt 20, topAt 21]
noncomputable def g4 : List Stmt := [topAt 22, topAt 23, topAt 24, topAt 25, topAt 26, topAt 27, topAt 28, topAt 29, topAt 30, topAt 31, topAt 32, topAt 33, topAt 34, topAt 35, topAt 36, topAt 37, topAt 38, topAt 39, topAt 40]
noncomputable abbrev seg (w : World) (n : Nat) (s : SharedT) (t : Thread) := segRunT treeTable PW w 11 (some (.ref 6)) 1 n s t
theorem p1 (w : World) (os : OsState) : seg w 230 (ST (tr15 w.params) 15 187 os) (piecesOf g1 env0 cd0 q0 [topFrame q0]) = some (.next, ST (tr55 w.params) 55 251 os, cd0, ⟨36, 0, 51, 16⟩) := by kernel_rfl
theorem p2 (w : World) (os : OsState) : seg w 703 (ST (tr55 w.params) 55 251 os) (piecesOf g2 env0 cd0 ⟨36, 0, 51, 16⟩ [topFrame q0]) = some (.next, ST (tr155 w.params) 155 376 os, cd0, ⟨52, 0, 89, 16⟩) := by kernel_rfl
theorem p3 (w : World) (os : OsState) : seg w 700 (ST (tr155 w.params) 155 376 os) (piecesOf g3 env0 cd0 ⟨52, 0, 89, 16⟩ [topFrame q0]) = some (.next, ST (tr270 w.params) 270 535 os, cd0, ⟨154, 0, 159, 16⟩) := by kernel_rfl
theorem p4 (w : World) (os : OsState) : seg w 600 (ST (tr270 w.params) 270 535 os) (piecesOf g4 env0 cd0 ⟨154, 0, 159, 16⟩ [topFrame q0]) = some (.next, ST (tr376 w.params) 376 713 os, cd0, ⟨293, 0, 305, 96⟩) := by kernel_rfl
end Mine

-- HdO
namespace Mine
noncomputable abbrev SH (H : Heap) (k : Nat) (os : OsState) : Shared := ⟨H, #[], {}, k, os⟩
theorem pre0 (w : World) (os : OsState) : topGo treeTable PW w 11 (some (.ref 6)) 12 ⟨boot_heap w.params, #[], boot_drawn, boot_toks, os⟩ (topStub PW) = some ((ST (tr15 w.params) 15 187 os).abs, ⟨denote treeTable cd0, cd0, q0, [topFrame q0]⟩) := by kernel_rfl
theorem blk0 (w : World) (os : OsState) : segRun treeTable PW w 11 (some (.ref 6)) 1 1 (ST (tr15 w.params) 15 187 os).abs (blockOf body0 env0 cd0 q0 [topFrame q0]) = some (.next, (ST (tr15 w.params) 15 187 os).abs, cd0, q0) := by kernel_rfl
theorem fin0 (w : World) (os : OsState) : topRun treeTable PW w 11 (some (.ref 6)) 2 (ST (tr376 w.params) 376 713 os).abs (restOf [] env0 cd0 ⟨293, 0, 305, 96⟩ [topFrame q0]) = some (SH (hHeap w.params) 713 os) := by kernel_rfl
theorem body_is : body0 = g1 ++ (g2 ++ (g3 ++ (g4 ++ []))) := by kernel_rfl
theorem run0 (w : World) (os : OsState) : topRun treeTable PW w 11 (some (.ref 6)) (12 + (1 + (230 + (703 + (700 + (600 + 2)))))) ⟨boot_heap w.params, #[], boot_drawn, boot_toks, os⟩ (topStub PW) = some (SH (hHeap w.params) 713 os) := by
  have k := piece_app (segRun_of (p1 w os)) (piece_app (segRun_of (p2 w os)) (piece_app (segRun_of (p3 w os)) (piece_app (segRun_of (p4 w os)) (fin0 w os))))
  rw [← body_is] at k
  exact go_top (pre0 w os) (piece_block (blk0 w os) k)
theorem size0 (w : World) : ((boot_heap w.params).isNs mainGlobals && (#[] : Array GenState).size == 0, (boot_heap w.params).objs.size, (boot_heap w.params).nsMap mainGlobals "__annotations__") = (true, 11, some (.ref 6)) := by kernel_rfl
noncomputable abbrev loose0 : List Str := ["RANGE_END", "CodeSet", "_law_spots"]
noncomputable abbrev Xt0 : Shared → Bool := fun s => xlAt vw lv0 s && recOk (RowW.records PySem.Challenge.rw_nt0015_01.row.toRowW) s
theorem looks0 (w : World) : (fun os => ((staticsOk (importedModules PW.main.body) (boot_heap w.params) (hHeap w.params) && namesBound PW (hHeap w.params) && gensDone (SH (hHeap w.params) 713 os) && laidKept (boot_heap w.params) (hHeap w.params)), openSeen vw loose0 (importedModules PW.main.body) Xt0 true (SH (hHeap w.params) 713 os), Hook.obs hH (SH (hHeap w.params) 713 os))) = fun _ => (true, openGood vw loose0, Hook.val hH w) := by kernel_rfl
theorem left0 : LeftO PW vw loose0 Xt0 (Hook.obs hH) (Hook.val hH) 4420 true := by
  refine LeftO.of_pieces (H₀ := boot_heap) (H₁ := hHeap) (gs₀ := #[]) (gs₁ := #[]) (d₀ := boot_drawn) (d₁ := {}) (k₀ := boot_toks) (k₁ := 713) (m₀ := 11) (ann := some (.ref 6)) (M := 12 + (1 + (230 + (703 + (700 + (600 + 2)))))) (boot_open (by kernel_rfl) (by kernel_rfl) (fun s => by kernel_rfl)) size0 run0 (by kernel_rfl) looks0
theorem res0 : namesResolve PySem.Challenge.rw_nt0015_01.row.prog = true := by kernel_rfl
theorem look0 : looksOpen PySem.Challenge.rw_nt0015_01.row.prog = true := by
  unfold looksOpen
  rw [res0]
  kernel_rfl
theorem row0 : OpenRow.wellSaid PySem.Challenge.rw_nt0015_01.row = true := by
  unfold OpenRow.wellSaid OpenRow.partSaid
  rw [look0]
  kernel_rfl
theorem said0 : OpenLaw.wellSaid PySem.Challenge.rw_nt0015_01 = true := by
  unfold OpenLaw.wellSaid
  rw [row0]
  kernel_rfl
end Mine

-- B1
namespace Mine

/-- what a lambda is, in the text -/
structure LamObj where
  params : Arguments
  body : Expr
  scope : Scope
  qual : Str

/-- plain data -/
inductive V where
  | none
  | bool (b : Bool)
  | int (i : Int)
  | str (x : Str)
  | bytes (b : Array UInt8)
  | tuple (xs : List V)
  | list (xs : List V)
  | inst (id : Option (Addr × Addr)) (C : Addr) (fs : List (Str × V))
  | range (a b c : Int)
  | ty (x : String)
  | fn (a : Addr)
  | lam (L : LamObj) (caps : List (Str × V))
  | idict (ks : List Int)

/-- a dict with these ints as its keys, in this order -/
noncomputable def IntDict (o : Obj) (ks : List Int) : Prop := (o.cls = .type "dict" ∧ ∃ es ep, o.data = .dict es ep) ∧ ∀ (p : Program) (w : World), ∃ kvs, o.IsDictOf (intKind p w) kvs ∧ kvs.map (·.1) = ks

noncomputable def Av (X : Addr → Prop) (a : Addr) : Prop := ¬ X a ∧ a ≠ 365 ∧ a ≠ 360
theorem Av.mono {X Y : Addr → Prop} {a : Addr} (h : Av X a) (s : ∀ a, Y a → X a) : Av Y a := ⟨fun y => h.1 (s _ y), h.2⟩

mutual
inductive Rep (h : Heap) (X : Addr → Prop) : Value → V → Prop
  | none : Rep h X .none .none
  | bool (b : Bool) : Rep h X (.bool b) (.bool b)
  | int (i : Int) (t : Tok) : Rep h X (.int i t) (.int i)
  | str (x : Str) (t : Tok) : Rep h X (.str x t) (.str x)
  | bytes (x : Array UInt8) (t : Tok) : Rep h X (.bytes x t) (.bytes x)
  | tuple {a : Addr} {o : Obj} {vs : Array Value} {n : Nat} {xs : List V} : h.get? a = some o → o.cls = .type "tuple" → o.data = .seq vs n → Av X a → RepL h X vs.toList xs → Rep h X (.ref a) (.tuple xs)
  | list {a : Addr} {o : Obj} {vs : Array Value} {n : Nat} {xs : List V} : h.get? a = some o → o.cls = .type "list" → o.data = .seq vs n → Av X a → RepL h X vs.toList xs → Rep h X (.ref a) (.list xs)
  | inst {id : Option (Addr × Addr)} {a C dx : Addr} {es : List DictEntry} {n : Nat} {fs : List (Str × V)} : h.get? a = some (instObj C dx) → h.get? dx = some (dictOf es n) → Av X a → Av X dx → RepF h X es fs → (∀ q, id = some q → q = (a, dx)) → Rep h X (.ref a) (.inst id C fs)
  | range {r : Addr} {a b c : Int} {t u v : Tok} : IsRange h r a b c t u v → Av X r → Rep h X (.ref r) (.range a b c)
  | ty (x : String) : Rep h X (.type x) (.ty x)
  | fn (a : Addr) : Rep h X (.ref a) (.fn a)
  | lam {a c : Addr} {o oc : Obj} {fd : FuncData} {cvs : Array Value} {ct : Tok} {L : LamObj} {caps : List (Str × V)} : h.get? a = some o → o.data = .func fd → Av X a → fd.params = L.params → fd.body = .expr L.body → fd.scope = L.scope → fd.qualname = L.qual →
      fd.globals = mainGlobals → fd.builtins = builtinsNs → fd.defaults = .none → fd.kwdefaults = .none → fd.code = .ref c → h.get? c = some oc → oc.data = .fields cvs → cvs[1]? = some (.str L.qual ct) → Av X c → RepC h X fd.closure caps → Rep h X (.ref a) (.lam L caps)
  | idict {a : Addr} {o : Obj} {ks : List Int} : h.get? a = some o → IntDict o ks → (a == sysModules) = false → Av X a → Rep h X (.ref a) (.idict ks)
inductive RepL (h : Heap) (X : Addr → Prop) : List Value → List V → Prop
  | nil : RepL h X [] []
  | cons {v : Value} {vs : List Value} {d : V} {ds : List V} : Rep h X v d → RepL h X vs ds → RepL h X (v :: vs) (d :: ds)
inductive RepF (h : Heap) (X : Addr → Prop) : List DictEntry → List (Str × V) → Prop
  | nil : RepF h X [] []
  | cons {hs : Int} {x : Str} {t : Tok} {v : Value} {es : List DictEntry} {d : V} {fs : List (Str × V)} : Rep h X v d → RepF h X es fs → RepF h X (⟨hs, .str x t, v⟩ :: es) ((x, d) :: fs)
inductive RepC (h : Heap) (X : Addr → Prop) : List (Str × Addr) → List (Str × V) → Prop
  | nil : RepC h X [] []
  | cons {x : Str} {c : Addr} {v : Value} {cs : List (Str × Addr)} {d : V} {fs : List (Str × V)} : h.IsCell c (some v) → Av X c → Rep h X v d → RepC h X cs fs → RepC h X ((x, c) :: cs) ((x, d) :: fs)
end

theorem ff {P : Prop} (e : false = true) : P := Bool.noConfusion e
theorem nn {P : Prop} {α : Type} {a : α} (e : none = some a) : P := by cases e
section
variable {h : Heap} {X : Addr → Prop}
/-- what a value is that has this datum -/
noncomputable def RepS (h : Heap) (X : Addr → Prop) (v : Value) (d : V) : Prop := V.casesOn d (v = .none) (fun b => v = .bool b) (fun i => ∃ t, v = .int i t) (fun x => ∃ t, v = .str x t) (fun x => ∃ t, v = .bytes x t)
  (fun xs => ∃ a, v = .ref a ∧ ∃ o vs n, h.get? a = some o ∧ o.cls = .type "tuple" ∧ o.data = .seq vs n ∧ Av X a ∧ RepL h X vs.toList xs) (fun xs => ∃ a, v = .ref a ∧ ∃ o vs n, h.get? a = some o ∧ o.cls = .type "list" ∧ o.data = .seq vs n ∧ Av X a ∧ RepL h X vs.toList xs)
  (fun id C fs => ∃ a, v = .ref a ∧ ∃ dx es n, h.get? a = some (instObj C dx) ∧ h.get? dx = some (dictOf es n) ∧ Av X a ∧ Av X dx ∧ RepF h X es fs ∧ (∀ q, id = some q → q = (a, dx))) (fun a b c => ∃ r, v = .ref r ∧ ∃ t u w, IsRange h r a b c t u w ∧ Av X r) (fun x => v = .type x) (fun a => v = .ref a)
  (fun L caps => True)
  (fun ks => ∃ a, v = .ref a ∧ ∃ o, h.get? a = some o ∧ IntDict o ks ∧ (a == sysModules) = false ∧ Av X a)
theorem Rep.shape {v : Value} {d : V} (r : Rep h X v d) : RepS h X v d := by
  cases r with
  | none | bool | ty | fn => exact rfl
  | int | str | bytes => exact ⟨_, rfl⟩
  | tuple a b c d e => exact ⟨_, rfl, _, _, _, a, b, c, d, e⟩
  | list a b c d e => exact ⟨_, rfl, _, _, _, a, b, c, d, e⟩
  | inst a b c d e f => exact ⟨_, rfl, _, _, _, a, b, c, d, e, f⟩
  | range a b => exact ⟨_, rfl, _, _, _, a, b⟩
  | lam => exact trivial
  | idict a b c d => exact ⟨_, rfl, _, a, b, c, d⟩
theorem Rep.casesNone {motive : (v : Value) → Rep h X v .none → Prop} (none : motive .none .none) {v : Value} (r : Rep h X v .none) : motive v r := by
  cases (r.shape : _ = _); exact none
theorem Rep.casesBool {b : Bool} {motive : (v : Value) → Rep h X v (.bool b) → Prop} (bool : motive (.bool b) (.bool b)) {v : Value} (r : Rep h X v (.bool b)) : motive v r := by
  cases (r.shape : _ = _); exact bool
theorem Rep.casesInt {i : Int} {motive : (v : Value) → Rep h X v (.int i) → Prop} (int : ∀ t, motive (.int i t) (.int i t)) {v : Value} (r : Rep h X v (.int i)) : motive v r := by
  obtain ⟨_, rfl⟩ := (r.shape : ∃ _, _); exact int _
theorem Rep.casesStr {x : Str} {motive : (v : Value) → Rep h X v (.str x) → Prop} (str : ∀ t, motive (.str x t) (.str x t)) {v : Value} (r : Rep h X v (.str x)) : motive v r := by
  obtain ⟨_, rfl⟩ := (r.shape : ∃ _, _); exact str _
theorem Rep.casesBytes {x : Array UInt8} {motive : (v : Value) → Rep h X v (.bytes x) → Prop} (bytes : ∀ t, motive (.bytes x t) (.bytes x t)) {v : Value} (r : Rep h X v (.bytes x)) : motive v r := by
  obtain ⟨_, rfl⟩ := (r.shape : ∃ _, _); exact bytes _
theorem Rep.casesTy {x : String} {motive : (v : Value) → Rep h X v (.ty x) → Prop} (ty : motive (.type x) (.ty x)) {v : Value} (r : Rep h X v (.ty x)) : motive v r := by
  cases (r.shape : _ = _); exact ty
theorem Rep.casesTuple {xs : List V} {motive : (v : Value) → Rep h X v (.tuple xs) → Prop} (tuple : ∀ {a : Addr} {o : Obj} {vs : Array Value} {n : Nat} (a1 : h.get? a = some o) (a2 : o.cls = .type "tuple") (a3 : o.data = .seq vs n) (a4 : Av X a) (a5 : RepL h X vs.toList xs), motive (.ref a) (.tuple a1 a2 a3 a4 a5)) {v : Value} (r : Rep h X v (.tuple xs)) : motive v r := by
  obtain ⟨_, rfl, _, _, _, a, b, c, d, e⟩ := (r.shape : ∃ _, _); exact tuple a b c d e
theorem Rep.casesList {xs : List V} {motive : (v : Value) → Rep h X v (.list xs) → Prop} (list : ∀ {a : Addr} {o : Obj} {vs : Array Value} {n : Nat} (a1 : h.get? a = some o) (a2 : o.cls = .type "list") (a3 : o.data = .seq vs n) (a4 : Av X a) (a5 : RepL h X vs.toList xs), motive (.ref a) (.list a1 a2 a3 a4 a5)) {v : Value} (r : Rep h X v (.list xs)) : motive v r := by
  obtain ⟨_, rfl, _, _, _, a, b, c, d, e⟩ := (r.shape : ∃ _, _); exact list a b c d e
theorem Rep.casesInst {id : Option (Addr × Addr)} {C : Addr} {fs : List (Str × V)} {motive : (v : Value) → Rep h X v (.inst id C fs) → Prop} (inst : ∀ {a dx : Addr} {es : List DictEntry} {n : Nat} (a1 : h.get? a = some (instObj C dx)) (a2 : h.get? dx = some (dictOf es n)) (a3 : Av X a) (a4 : Av X dx) (a5 : RepF h X es fs) (a6 : ∀ q, id = some q → q = (a, dx)), motive (.ref a) (.inst a1 a2 a3 a4 a5 a6)) {v : Value} (r : Rep h X v (.inst id C fs)) : motive v r := by
  obtain ⟨_, rfl, _, _, _, a, b, c, d, e, f⟩ := (r.shape : ∃ _, _); exact inst a b c d e f
theorem Rep.casesRange {a b c : Int} {motive : (v : Value) → Rep h X v (.range a b c) → Prop} (range : ∀ {r : Addr} {t u v : Tok} (a1 : IsRange h r a b c t u v) (a2 : Av X r), motive (.ref r) (.range a1 a2)) {v : Value} (r : Rep h X v (.range a b c)) : motive v r := by
  obtain ⟨_, rfl, _, _, _, a, b⟩ := (r.shape : ∃ _, _); exact range a b
theorem Rep.casesLam {L : LamObj} {caps : List (Str × V)} {motive : (v : Value) → Rep h X v (.lam L caps) → Prop} (lam : ∀ {a c : Addr} {o oc : Obj} {fd : FuncData} {cvs : Array Value} {ct : Tok} (a1 : h.get? a = some o) (a2 : o.data = .func fd) (a3 : Av X a) (b1 : fd.params = L.params) (b2 : fd.body = .expr L.body) (b3 : fd.scope = L.scope) (b4 : fd.qualname = L.qual)
      (b5 : fd.globals = mainGlobals) (b6 : fd.builtins = builtinsNs) (b7 : fd.defaults = .none) (b8 : fd.kwdefaults = .none) (b9 : fd.code = .ref c) (c1 : h.get? c = some oc) (c2 : oc.data = .fields cvs) (c3 : cvs[1]? = some (.str L.qual ct)) (c4 : Av X c) (c5 : RepC h X fd.closure caps), motive (.ref a) (.lam a1 a2 a3 b1 b2 b3 b4 b5 b6 b7 b8 b9 c1 c2 c3 c4 c5)) {v : Value} (r : Rep h X v (.lam L caps)) : motive v r := by
  cases r with | lam a b c d e f g h i j k l m n o p q => exact lam a b c d e f g h i j k l m n o p q
theorem Rep.casesIdict {ks : List Int} {motive : (v : Value) → Rep h X v (.idict ks) → Prop} (idict : ∀ {a : Addr} {o : Obj} (a1 : h.get? a = some o) (a2 : IntDict o ks) (a3 : (a == sysModules) = false) (a4 : Av X a), motive (.ref a) (.idict a1 a2 a3 a4)) {v : Value} (r : Rep h X v (.idict ks)) : motive v r := by
  obtain ⟨_, rfl, _, a, b, c, d⟩ := (r.shape : ∃ _, _); exact idict a b c d
theorem RepL.casesNil {motive : (vs : List Value) → RepL h X vs [] → Prop} (nil : motive [] .nil) {vs : List Value} (r : RepL h X vs []) : motive vs r := by cases r; exact nil
theorem RepL.casesCons {d : V} {ds : List V} {motive : (vs : List Value) → RepL h X vs (d :: ds) → Prop} (cons : ∀ {v : Value} {vs : List Value} (a : Rep h X v d) (b : RepL h X vs ds), motive (v :: vs) (.cons a b)) {vs : List Value} (r : RepL h X vs (d :: ds)) : motive vs r := by
  cases r with | cons a b => exact cons a b
end
theorem Rep.ind {h : Heap} {X : Addr → Prop} {m1 : Value → V → Prop} {m2 : List Value → List V → Prop} {m3 : List DictEntry → List (Str × V) → Prop} {m4 : List (Str × Addr) → List (Str × V) → Prop}
    (c0 : m1 .none .none) (c1 : ∀ b, m1 (.bool b) (.bool b)) (c2 : ∀ i t, m1 (.int i t) (.int i)) (c3 : ∀ x t, m1 (.str x t) (.str x)) (c4 : ∀ x t, m1 (.bytes x t) (.bytes x))
    (c5 : ∀ {a : Addr} {o : Obj} {vs : Array Value} {n : Nat} {xs : List V}, h.get? a = some o → o.cls = .type "tuple" → o.data = .seq vs n → Av X a → m2 vs.toList xs → m1 (.ref a) (.tuple xs))
    (c6 : ∀ {a : Addr} {o : Obj} {vs : Array Value} {n : Nat} {xs : List V}, h.get? a = some o → o.cls = .type "list" → o.data = .seq vs n → Av X a → m2 vs.toList xs → m1 (.ref a) (.list xs))
    (c7 : ∀ {id : Option (Addr × Addr)} {a C dx : Addr} {es : List DictEntry} {n : Nat} {fs : List (Str × V)}, h.get? a = some (instObj C dx) → h.get? dx = some (dictOf es n) → Av X a → Av X dx → m3 es fs → (∀ q, id = some q → q = (a, dx)) → m1 (.ref a) (.inst id C fs))
    (c8 : ∀ {r : Addr} {a b c : Int} {t u v : Tok}, IsRange h r a b c t u v → Av X r → m1 (.ref r) (.range a b c)) (c9 : ∀ x : String, m1 (.type x) (.ty x)) (c10 : ∀ a : Addr, m1 (.ref a) (.fn a))
    (c11 : ∀ {a c : Addr} {o oc : Obj} {fd : FuncData} {cvs : Array Value} {ct : Tok} {L : LamObj} {caps : List (Str × V)}, h.get? a = some o → o.data = .func fd → Av X a → fd.params = L.params → fd.body = .expr L.body → fd.scope = L.scope → fd.qualname = L.qual →
      fd.globals = mainGlobals → fd.builtins = builtinsNs → fd.defaults = .none → fd.kwdefaults = .none → fd.code = .ref c → h.get? c = some oc → oc.data = .fields cvs → cvs[1]? = some (.str L.qual ct) → Av X c → m4 fd.closure caps → m1 (.ref a) (.lam L caps))
    (c12 : ∀ {a : Addr} {o : Obj} {ks : List Int}, h.get? a = some o → IntDict o ks → (a == sysModules) = false → Av X a → m1 (.ref a) (.idict ks))
    (n2 : m2 [] []) (k2 : ∀ {v : Value} {vs : List Value} {d : V} {ds : List V}, m1 v d → m2 vs ds → m2 (v :: vs) (d :: ds))
    (n3 : m3 [] []) (k3 : ∀ {hs : Int} {x : Str} {t : Tok} {v : Value} {es : List DictEntry} {d : V} {fs : List (Str × V)}, m1 v d → m3 es fs → m3 (⟨hs, .str x t, v⟩ :: es) ((x, d) :: fs))
    (n4 : m4 [] []) (k4 : ∀ {x : Str} {c : Addr} {v : Value} {cs : List (Str × Addr)} {d : V} {fs : List (Str × V)}, h.IsCell c (some v) → Av X c → m1 v d → m4 cs fs → m4 ((x, c) :: cs) ((x, d) :: fs)) :
    (∀ {v : Value} {d : V}, Rep h X v d → m1 v d) ∧ (∀ {v : List Value} {d : List V}, RepL h X v d → m2 v d) ∧ (∀ {v : List DictEntry} {d : List (Str × V)}, RepF h X v d → m3 v d) ∧ (∀ {v : List (Str × Addr)} {d : List (Str × V)}, RepC h X v d → m4 v d) := by
  refine ⟨fun r => ?_, fun r => ?_, fun r => ?_, fun r => ?_⟩
  · exact Rep.rec (motive_1 := fun v d _ => m1 v d) (motive_2 := fun v d _ => m2 v d) (motive_3 := fun v d _ => m3 v d) (motive_4 := fun v d _ => m4 v d) c0 c1 c2 c3 c4 (fun a b c d _ e => c5 a b c d e) (fun a b c d _ e => c6 a b c d e) (fun a b c d _ e f => c7 a b c d f e) (fun a b => c8 a b) c9 c10 (fun a b c d e f g h i j k l m n o p _ q => c11 a b c d e f g h i j k l m n o p q) (fun a b c d => c12 a b c d) n2 (fun _ _ a b => k2 a b) n3 (fun _ _ a b => k3 a b) n4 (fun a b _ _ c d => k4 a b c d) r
  · exact RepL.rec (motive_1 := fun v d _ => m1 v d) (motive_2 := fun v d _ => m2 v d) (motive_3 := fun v d _ => m3 v d) (motive_4 := fun v d _ => m4 v d) c0 c1 c2 c3 c4 (fun a b c d _ e => c5 a b c d e) (fun a b c d _ e => c6 a b c d e) (fun a b c d _ e f => c7 a b c d f e) (fun a b => c8 a b) c9 c10 (fun a b c d e f g h i j k l m n o p _ q => c11 a b c d e f g h i j k l m n o p q) (fun a b c d => c12 a b c d) n2 (fun _ _ a b => k2 a b) n3 (fun _ _ a b => k3 a b) n4 (fun a b _ _ c d => k4 a b c d) r
  · exact RepF.rec (motive_1 := fun v d _ => m1 v d) (motive_2 := fun v d _ => m2 v d) (motive_3 := fun v d _ => m3 v d) (motive_4 := fun v d _ => m4 v d) c0 c1 c2 c3 c4 (fun a b c d _ e => c5 a b c d e) (fun a b c d _ e => c6 a b c d e) (fun a b c d _ e f => c7 a b c d f e) (fun a b => c8 a b) c9 c10 (fun a b c d e f g h i j k l m n o p _ q => c11 a b c d e f g h i j k l m n o p q) (fun a b c d => c12 a b c d) n2 (fun _ _ a b => k2 a b) n3 (fun _ _ a b => k3 a b) n4 (fun a b _ _ c d => k4 a b c d) r
  · exact RepC.rec (motive_1 := fun v d _ => m1 v d) (motive_2 := fun v d _ => m2 v d) (motive_3 := fun v d _ => m3 v d) (motive_4 := fun v d _ => m4 v d) c0 c1 c2 c3 c4 (fun a b c d _ e => c5 a b c d e) (fun a b c d _ e => c6 a b c d e) (fun a b c d _ e f => c7 a b c d f e) (fun a b => c8 a b) c9 c10 (fun a b c d e f g h i j k l m n o p _ q => c11 a b c d e f g h i j k l m n o p q) (fun a b c d => c12 a b c d) n2 (fun _ _ a b => k2 a b) n3 (fun _ _ a b => k3 a b) n4 (fun a b _ _ c d => k4 a b c d) r
section
variable {h h' : Heap} {X Y : Addr → Prop}
theorem RepL.ind {m : List Value → List V → Prop} (n : m [] []) (c : ∀ {v : Value} {vs : List Value} {d : V} {ds : List V}, Rep h X v d → RepL h X vs ds → m vs ds → m (v :: vs) (d :: ds)) {vs : List Value} {ds : List V} (r : RepL h X vs ds) : m vs ds := by
  induction vs generalizing ds with
  | nil => cases r; exact n
  | cons v vs ih => cases r with | cons a b => exact c a b (ih b)
theorem RepF.ind {m : List DictEntry → List (Str × V) → Prop} (n : m [] []) (c : ∀ {hs : Int} {x : Str} {t : Tok} {v : Value} {vs : List DictEntry} {d : V} {ds : List (Str × V)}, Rep h X v d → RepF h X vs ds → m vs ds → m (⟨hs, .str x t, v⟩ :: vs) ((x, d) :: ds)) {vs : List DictEntry} {ds : List (Str × V)} (r : RepF h X vs ds) : m vs ds := by
  induction vs generalizing ds with
  | nil => cases r; exact n
  | cons v vs ih => cases r with | cons a b => exact c a b (ih b)
theorem Rep.imps (k : ∀ b o, h.get? b = some o → Av X b → h'.get? b = some o ∧ Av Y b) : (∀ {v : Value} {d : V}, Rep h X v d → Rep h' Y v d) ∧ (∀ {v : List Value} {d : List V}, RepL h X v d → RepL h' Y v d) ∧ (∀ {v : List DictEntry} {d : List (Str × V)}, RepF h X v d → RepF h' Y v d) ∧ (∀ {v : List (Str × Addr)} {d : List (Str × V)}, RepC h X v d → RepC h' Y v d) :=
  Rep.ind .none .bool .int .str .bytes (fun a b c e f => .tuple (k _ _ a e).1 b c (k _ _ a e).2 f) (fun a b c e f => .list (k _ _ a e).1 b c (k _ _ a e).2 f) (fun a b c e f g => .inst (k _ _ a c).1 (k _ _ b e).1 (k _ _ a c).2 (k _ _ b e).2 f g) (fun a b => .range (k _ _ a b).1 (k _ _ a b).2) .ty .fn
    (fun a b c d1 d2 d3 d4 d5 d6 d7 d8 d9 e1 e2 e3 e4 f => .lam (k _ _ a c).1 b (k _ _ a c).2 d1 d2 d3 d4 d5 d6 d7 d8 d9 (k _ _ e1 e4).1 e2 e3 (k _ _ e1 e4).2 f) (fun a b c e => .idict (k _ _ a e).1 b c (k _ _ a e).2) .nil .cons .nil .cons .nil (fun a a2 b c => .cons (a.elim fun o a => ⟨o, (k _ _ a.1 a2).1, a.2⟩) (a.elim fun o a => (k _ _ a.1 a2).2) b c)
theorem Rep.imp (k : ∀ b o, h.get? b = some o → Av X b → h'.get? b = some o ∧ Av Y b) {v : Value} {d : V} (r : Rep h X v d) : Rep h' Y v d := (Rep.imps k).1 r
theorem RepL.imp (k : ∀ b o, h.get? b = some o → Av X b → h'.get? b = some o ∧ Av Y b) {v : List Value} {d : List V} (r : RepL h X v d) : RepL h' Y v d := (Rep.imps k).2.1 r
theorem RepF.imp (k : ∀ b o, h.get? b = some o → Av X b → h'.get? b = some o ∧ Av Y b) {v : List DictEntry} {d : List (Str × V)} (r : RepF h X v d) : RepF h' Y v d := (Rep.imps k).2.2.1 r
theorem RepC.imp (k : ∀ b o, h.get? b = some o → Av X b → h'.get? b = some o ∧ Av Y b) {v : List (Str × Addr)} {d : List (Str × V)} (r : RepC h X v d) : RepC h' Y v d := (Rep.imps k).2.2.2 r
end

/-! the tables of the two texts that make lambdas: what is entered there -/
inductive TabL (X : Addr → Prop) (h : Heap) (q : Str) : List Value → Prop
  | nil : TabL X h q []
  | cons {i j : Int} {t u tq : Tok} {c : Addr} {o : Obj} {vs : Array Value} {rest : List Value} : h.get? c = some o → o.data = .fields vs → vs[1]? = some (.str q tq) → Av X c → TabL X h q rest → TabL X h q (.int i t :: .int j u :: .ref c :: rest)
theorem TabL.imp {X X' : Addr → Prop} {h h' : Heap} {q : Str} (k : ∀ b o vs, h.get? b = some o → o.data = .fields vs → Av X b → h'.get? b = some o ∧ Av X' b) {l : List Value} (r : TabL X h q l) : TabL X' h' q l := by
  induction r with
  | nil => exact .nil
  | cons a b c d _ ih => exact .cons (k _ _ _ a b d).1 b c (k _ _ _ a b d).2 ih
noncomputable def qPairs : Str := "_law_pairs_right.<locals>.<lambda>"
noncomputable def qMaps : Str := "_law_maps_right.<locals>.<lambda>"
noncomputable def Tabs (X : Addr → Prop) (h : Heap) : Prop := (∃ ps : Array Value, h.get? 365 = some (tabObj ps) ∧ TabL X h qPairs ps.toList) ∧ (∃ ps : Array Value, h.get? 360 = some (tabObj ps) ∧ TabL X h qMaps ps.toList)
theorem Tabs.imp {X X' : Addr → Prop} {h h' : Heap} (T : Tabs X h) (k5 : ∀ o, h.get? 365 = some o → h'.get? 365 = some o) (k0 : ∀ o, h.get? 360 = some o → h'.get? 360 = some o) (k : ∀ b o vs, h.get? b = some o → o.data = .fields vs → Av X b → h'.get? b = some o ∧ Av X' b) : Tabs X' h' :=
  let ⟨⟨ps, a, b⟩, ⟨ps', c, d⟩⟩ := T
  ⟨⟨ps, k5 _ a, b.imp k⟩, ⟨ps', k0 _ c, d.imp k⟩⟩
theorem Tabs.mono {X X' : Addr → Prop} {h : Heap} (T : Tabs X h) (s : ∀ a, X' a → X a) : Tabs X' h := T.imp (fun _ e => e) (fun _ e => e) fun _ _ _ e _ av => ⟨e, av.mono s⟩
theorem Tabs.keep {X : Addr → Prop} {h h' : Heap} (T : Tabs X h) (k : ∀ b o, h.get? b = some o → h'.get? b = some o) : Tabs X h' := T.imp (k _) (k _) fun b o _ e _ av => ⟨k b o e, av⟩
/-- things that no table names are let out -/
theorem Tabs.but {X X' : Addr → Prop} {h : Heap} (T : Tabs X h) (s : ∀ a, X' a → X a ∨ ∀ o vs, h.get? a = some o → o.data ≠ .fields vs) : Tabs X' h :=
  T.imp (fun _ e => e) (fun _ e => e) fun b o vs e d av => ⟨e, fun z => (s b z).elim av.1 fun n => n o vs e d, av.2⟩

/-! the heap grows -/
structure Le (X : Addr → Prop) (h h' : Heap) : Prop where
  keep : ∀ b o, b ≠ 365 → b ≠ 360 → h.get? b = some o → h'.get? b = some o
  live : ∀ b, (h.get? b).isSome → (h'.get? b).isSome
  tab : Tabs X h → Tabs X h'
theorem Le.refl {X : Addr → Prop} (h : Heap) : Le X h h := ⟨fun _ _ _ _ e => e, fun _ e => e, id⟩
theorem Le.trans {X : Addr → Prop} {a b c : Heap} (x : Le X a b) (y : Le X b c) : Le X a c := ⟨fun p o n m e => y.keep p o n m (x.keep p o n m e), fun p e => y.live p (x.live p e), fun t => y.tab (x.tab t)⟩
theorem Le.of_keep {X : Addr → Prop} {h h' : Heap} (k : ∀ b o, h.get? b = some o → h'.get? b = some o) : Le X h h' := ⟨fun b o _ _ e => k b o e, fun b e => by
  obtain ⟨o, ho⟩ := Option.isSome_iff_exists.mp e
  rw [k b o ho]; rfl, fun t => t.keep k⟩
theorem Le.push {X : Addr → Prop} (h : Heap) (o : Obj) : Le X h (h.push o) := .of_keep fun _ _ e => Heap.get?_push_of_some _ e
theorem Rep.leZ {h h' : Heap} {X Z : Addr → Prop} (l : Le Z h h') {v : Value} {d : V} (r : Rep h X v d) : Rep h' X v d := r.imp fun b o e a => ⟨l.keep b o a.2.1 a.2.2 e, a⟩
theorem Rep.le {h h' : Heap} {X : Addr → Prop} (l : Le X h h') {v : Value} {d : V} (r : Rep h X v d) : Rep h' X v d := r.leZ l
theorem RepL.leZ {h h' : Heap} {X Z : Addr → Prop} (l : Le Z h h') {v : List Value} {d : List V} (r : RepL h X v d) : RepL h' X v d := r.imp fun b o e a => ⟨l.keep b o a.2.1 a.2.2 e, a⟩
theorem RepL.le {h h' : Heap} {X : Addr → Prop} (l : Le X h h') {v : List Value} {d : List V} (r : RepL h X v d) : RepL h' X v d := r.leZ l
theorem Rep.sub {h : Heap} {X Y : Addr → Prop} (s : ∀ a, Y a → X a) {v : Value} {d : V} (r : Rep h X v d) : Rep h Y v d := r.imp fun _ _ e a => ⟨e, a.mono s⟩
theorem RepL.sub {h : Heap} {X Y : Addr → Prop} (s : ∀ a, Y a → X a) {v : List Value} {d : List V} (r : RepL h X v d) : RepL h Y v d := r.imp fun _ _ e a => ⟨e, a.mono s⟩

theorem RepL.length {h : Heap} {X : Addr → Prop} {vs : List Value} {ds : List V} (r : RepL h X vs ds) : vs.length = ds.length := r.ind (m := fun vs ds => vs.length = ds.length) rfl fun _ _ e => congrArg Nat.succ e
theorem RepL.append {h : Heap} {X : Addr → Prop} {ws : List Value} {es : List V} (q : RepL h X ws es) {vs : List Value} {ds : List V} (r : RepL h X vs ds) : RepL h X (vs ++ ws) (ds ++ es) := r.ind (m := fun vs ds => RepL h X (vs ++ ws) (ds ++ es)) q fun a _ i => .cons a i
theorem RepL.get {h : Heap} {X : Addr → Prop} {vs : List Value} {ds : List V} (r : RepL h X vs ds) : ∀ (i : Nat) (d : V), ds[i]? = some d → ∃ v, vs[i]? = some v ∧ Rep h X v d :=
  r.ind (m := fun vs ds => ∀ (i : Nat) (d : V), ds[i]? = some d → ∃ v, vs[i]? = some v ∧ Rep h X v d) (fun _ _ e => (Option.some_ne_none _ e.symm).elim) fun a _ ih i => Nat.casesOn i (fun _ e => ⟨_, rfl, Option.some.inj e ▸ a⟩) ih
theorem RepL.get' {h : Heap} {X : Addr → Prop} {vs : List Value} {ds : List V} (r : RepL h X vs ds) : ∀ (i : Nat) (v : Value), vs[i]? = some v → ∃ d, ds[i]? = some d ∧ Rep h X v d :=
  r.ind (m := fun vs ds => ∀ (i : Nat) (v : Value), vs[i]? = some v → ∃ d, ds[i]? = some d ∧ Rep h X v d) (fun _ _ e => (Option.some_ne_none _ e.symm).elim) fun a _ ih i => Nat.casesOn i (fun _ e => ⟨_, rfl, Option.some.inj e ▸ a⟩) ih
theorem RepL.set {h : Heap} {X : Addr → Prop} {v : Value} {d : V} (q : Rep h X v d) {vs : List Value} {ds : List V} (n : Nat) (r : RepL h X vs ds) : RepL h X (vs.set n v) (ds.set n d) :=
  r.ind (m := fun vs ds => ∀ n, RepL h X (vs.set n v) (ds.set n d)) (fun _ => .nil) (fun a r ih n => Nat.casesOn n (.cons q r) fun n => .cons a (ih n)) n
theorem RepL.snoc {h : Heap} {X : Addr → Prop} {vs : List Value} {ds : List V} {v : Value} {d : V} (r : RepL h X vs ds) (q : Rep h X v d) : RepL h X (vs ++ [v]) (ds ++ [d]) := RepL.append (.cons q .nil) r

/-- the world's facts: the text's own objects K, the built-in names, no limit set -/
structure Wd (K : Frag) (h : Heap) : Prop where
  k : K.In h
  off : K.lookup 365 = none ∧ K.lookup 360 = none
  g : ∃ mg, h.Ns mainGlobals mg
  b : ∃ mb, h.Ns builtinsNs mb ∧ ∀ x : Str, x ≠ "__name__" → mb x = bootBuiltins x
  lim : h.NoLimit
  dig : ∃ mc, h.Ns cStatics mc ∧ mc "sys.int_max_str_digits" = none
  mod : ∃ o, h.get? 4 = some o ∧ o.cls = .type "module" ∧ o.dict = some builtinsNs ∧ o.data = .plain
theorem Ns.le {h h' : Heap} {a : Addr} {m : Str → Option Value} (n : h.Ns a m) (k : ∀ o, h.get? a = some o → h'.get? a = some o) : h'.Ns a m :=
  let ⟨o, es, ep, x, r⟩ := n; ⟨o, es, ep, k _ x, r⟩
theorem Wd.keeps {K : Frag} {h h' : Heap} (w : Wd K h) (k : ∀ b o, b ≠ 365 → b ≠ 360 → h.get? b = some o → h'.get? b = some o) : Wd K h' where
  k := fun a o e => k a o (fun q => by rw [q, w.off.1] at e; exact nn e) (fun q => by rw [q, w.off.2] at e; exact nn e) (w.k a o e)
  off := w.off
  g := let ⟨mg, n⟩ := w.g; ⟨mg, Ns.le n fun o e => k _ o (by decide) (by decide) e⟩
  b := let ⟨mb, n, r⟩ := w.b; ⟨mb, Ns.le n fun o e => k _ o (by decide) (by decide) e, r⟩
  lim := let ⟨mc, n, r⟩ := w.lim; ⟨mc, Ns.le n fun o e => k _ o (by decide) (by decide) e, r⟩
  dig := let ⟨mc, n, r⟩ := w.dig; ⟨mc, Ns.le n fun o e => k _ o (by decide) (by decide) e, r⟩
  mod := let ⟨o, n, r⟩ := w.mod; ⟨o, k _ o (by decide) (by decide) n, r⟩
theorem Wd.le {K : Frag} {h h' : Heap} {Z : Addr → Prop} (w : Wd K h) (l : Le Z h h') : Wd K h' := w.keeps l.keep

noncomputable def LiveB (K : Frag) (X : Addr → Prop) (h : Heap) : Prop := (h.get? 365).isSome ∧ (h.get? 360).isSome ∧ ∀ a, X a → (h.get? a).isSome ∧ K.lookup a = none
theorem LiveB.le {K : Frag} {X Z : Addr → Prop} {h h' : Heap} (l : LiveB K X h) (q : Le Z h h') : LiveB K X h' := ⟨q.live _ l.1, q.live _ l.2.1, fun a x => ⟨q.live _ (l.2.2 a x).1, (l.2.2 a x).2⟩⟩
structure Live (K : Frag) (X : Addr → Prop) (h : Heap) : Prop where
  b : LiveB K X h
  t : Tabs X h
theorem Live.le {K : Frag} {X : Addr → Prop} {h h' : Heap} (l : Live K X h) (q : Le X h h') : Live K X h' := ⟨l.b.le q, q.tab l.t⟩
/-- a new address is in nobody's forbidden set -/
theorem LiveB.new {K : Frag} {X : Addr → Prop} {h : Heap} (l : LiveB K X h) {a : Addr} (e : h.get? a = none) : Av X a := by
  refine ⟨fun x => ?_, fun q => ?_, fun q => ?_⟩
  · have := (l.2.2 a x).1; rw [e] at this; exact ff this
  · have := l.1; rw [← q, e] at this; exact ff this
  · have := l.2.1; rw [← q, e] at this; exact ff this
theorem Live.new {K : Frag} {X : Addr → Prop} {h : Heap} (l : Live K X h) {a : Addr} (e : h.get? a = none) : Av X a := l.b.new e
theorem get?_size (h : Heap) : h.get? h.objs.size = none := by
  cases e : h.get? h.objs.size with
  | none => rfl
  | some o => exact absurd (Heap.lt_size e) (Nat.lt_irrefl _)
theorem Rep.fresh {h : Heap} {X : Addr → Prop} {Z : Addr → Prop} (hz : ∀ a, Z a → h.get? a = Option.none) {v : Value} {d : V} (r : Rep h X v d) : Rep h (fun a => X a ∨ Z a) v d :=
  r.imp fun b o e a => ⟨e, ⟨fun q => q.elim a.1 fun z => (by rw [hz b z] at e; exact nn e), a.2⟩⟩

/-- room left: n more nested calls -/
structure Rm (n : Nat) (A : Around) : Prop where
  hd : A.handled = none
  gs : A.guards = some []
  dp : A.depth + 3 * n ≤ 900
  un : A.units + 30 * n + 200 ≤ 9900

/-- where a fresh value lies: KP tells what must stay -/
noncomputable def FreshV (KP : Addr → Obj → Prop) (h : Heap) (v : Value) : Prop := ∃ a, v = .ref a ∧ (∀ C dx, h.get? a = some (instObj C dx) → ∀ o, ¬ KP dx o) ∧ ∀ o, h.get? a = some o → o.cls = .type "list" → (∀ q, ¬ KP a q) ∧ o = { cls := .type "list", data := o.data }
theorem FreshV.imp {KP KP' : Addr → Obj → Prop} {h : Heap} {v : Value} (f : FreshV KP h v) (k : ∀ b o, KP' b o → KP b o) : FreshV KP' h v :=
  let ⟨a, e, f1, f2⟩ := f; ⟨a, e, fun C dx i o q => f1 C dx i o (k _ _ q), fun o i c => ⟨fun q z => (f2 o i c).1 q (k _ _ z), (f2 o i c).2⟩⟩

noncomputable def HP (h : Heap) (b : Addr) (o : Obj) : Prop := b ≠ 365 ∧ b ≠ 360 ∧ h.get? b = some o

noncomputable def Post (s : Shared) (X : Addr → Prop) (fr : Bool) (d : V) (Q : Value → Shared → Prop) : Prop :=
  ∀ v h' tk, Le X s.heap h' → Rep h' X v d → (fr = true → FreshV (HP s.heap) h' v) → Q v { s with heap := h', toks := tk }

/-- the two texts that make lambdas: their code object, how their inner names begin -/
noncomputable def codeOf (sc : Scope) : Option (Addr × Str) :=
  if sc.names.lookup ("its" : Str) == some .local && sc.names.lookup ("laid" : Str) == some .local then some (362, "_law_maps_right.<locals>.")
  else if sc.names.lookup ("told" : Str) == some .local && sc.names.lookup ("range_map_paired" : Str) == some .globalImplicit then some (369, "_law_pairs_right.<locals>.") else none
structure EnvOk (sc : Scope) (env : Env) : Prop where
  sco : env.scope = sc
  gl : env.globals = mainGlobals
  bi : env.builtins = builtinsNs
  kd : sc.kind = .function
  l1 : env.locals ≠ 365
  l2 : env.locals ≠ 360
  cq : ∀ q, codeOf sc = some q → env.code = .ref q.1 ∧ env.qual = q.2

noncomputable def VarAt (sc : Scope) (env : Env) (h : Heap) (X : Addr → Prop) (x : Str) (d : V) : Prop :=
  (sc.names.lookup x = some .local ∧ ∃ m v, h.Ns env.locals m ∧ m x = some v ∧ Rep h X v d) ∨
  ((sc.names.lookup x = some .cell ∨ sc.names.lookup x = some .free) ∧ ∃ c v, env.cells.lookup x = some c ∧ c ≠ 365 ∧ c ≠ 360 ∧ h.IsCell c (some v) ∧ Rep h X v d ∧ (codeOf sc ≠ none → ¬ X c))
theorem VarAt.le {sc : Scope} {env : Env} {h h' : Heap} {X Z : Addr → Prop} {x : Str} {d : V} (eo : EnvOk sc env) (v : VarAt sc env h X x d) (l : Le Z h h') : VarAt sc env h' X x d := by
  rcases v with ⟨a, m, v, n, e, r⟩ | ⟨a, c, v, e, n1, n2, ⟨o, k1, k2⟩, r, q⟩
  · exact .inl ⟨a, m, v, Ns.le n fun o e => l.keep _ o eo.l1 eo.l2 e, e, r.leZ l⟩
  · exact .inr ⟨a, c, v, e, n1, n2, ⟨o, l.keep _ o n1 n2 k1, k2⟩, r.leZ l, q⟩

/-- what is known of the names: the i-th name, the i-th datum -/
noncomputable def Vars (sc : Scope) (env : Env) (h : Heap) (X : Addr → Prop) (xs : List Str) (ρ : List (Option V)) : Prop :=
  ∀ (i : Nat) (x : Str) (d : V), xs[i]? = some x → ρ[i]? = some (some d) → VarAt sc env h X x d
theorem Vars.le {sc : Scope} {env : Env} {h h' : Heap} {X Z : Addr → Prop} {xs : List Str} {ρ : List (Option V)} (eo : EnvOk sc env) (v : Vars sc env h X xs ρ) (l : Le Z h h') : Vars sc env h' X xs ρ :=
  fun i x d a b => (v i x d a b).le eo l

/-- the expression e has the datum d, wherever the names are as ρ says; it only makes new things -/
noncomputable def Evs (K : Frag) (p : Program) (w : World) (n : Nat) (sc : Scope) (xs : List Str) (ρ : List (Option V)) (e : Expr) (fr : Bool) (d : V) : Prop :=
  ∀ (A : Around) (E : Value → Shared → Prop) (s : Shared) (X : Addr → Prop) (env : Env) (Q : Value → Shared → Prop),
    Rm n A → EnvOk sc env → Wd K s.heap → Live K X s.heap → Vars sc env s.heap X xs ρ → Post s X fr d Q → wpAny (model p w) A (eval e env) Q E s
noncomputable def Evt (K : Frag) (p : Program) (w : World) (n : Nat) (sc : Scope) (xs : List Str) (ρ : List (Option V)) (e : Expr) (b : Bool) : Prop :=
  ∀ (A : Around) (E : Value → Shared → Prop) (s : Shared) (X : Addr → Prop) (env : Env) (Q : Bool → Shared → Prop),
    Rm n A → EnvOk sc env → Wd K s.heap → Live K X s.heap → Vars sc env s.heap X xs ρ → (∀ h' tk, Le X s.heap h' → Q b { s with heap := h', toks := tk }) → wpAny (model p w) A (isTrue e env (eval e env)) Q E s
noncomputable def EvL (K : Frag) (p : Program) (w : World) (n : Nat) (sc : Scope) (xs : List Str) (ρ : List (Option V)) (es : List Expr) (ds : List V) : Prop :=
  ∀ (A : Around) (E : Value → Shared → Prop) (s : Shared) (X : Addr → Prop) (env : Env) (pos : Pos) (Q : List Value → Shared → Prop),
    Rm n A → EnvOk sc env → Wd K s.heap → Live K X s.heap → Vars sc env s.heap X xs ρ →
    (∀ vs h' tk, Le X s.heap h' → RepL h' X vs ds → Q vs { s with heap := h', toks := tk }) → wpAny (model p w) A (spliced (backTo pos (starEach es env))) Q E s
/-- the contract of a thing that is called -/
noncomputable def Ctr (K : Frag) (p : Program) (w : World) (n : Nat) (f : Value) (args : List V) (fr : Bool) (d : V) : Prop :=
  ∀ (A : Around) (E : Value → Shared → Prop) (s : Shared) (X : Addr → Prop) (vs : List Value) (Q : Value → Shared → Prop),
    Rm n A → Wd K s.heap → Live K X s.heap → RepL s.heap X vs args → Post s X fr d Q → wpAny (model p w) A (call f vs) Q E s

end Mine

-- B2
namespace Mine
variable {K : Frag} {p : Program} {w : World} {n : Nat} {sc : Scope} {xs : List Str} {ρ : List (Option V)}

theorem Post.now {s : Shared} {X : Addr → Prop} {d : V} {Q : Value → Shared → Prop} (h : Post s X false d Q) {v : Value} (tk : Nat) (r : Rep s.heap X v d) : Q v { s with toks := tk } :=
  h v s.heap tk (.refl _) r ff
theorem Post.weak {s : Shared} {X : Addr → Prop} {fr : Bool} {d : V} {Q : Value → Shared → Prop} (h : Post s X false d Q) : Post s X fr d Q :=
  fun v h' tk l r _ => h v h' tk l r ff
/-- the post behind a growth -/
theorem Post.after {s : Shared} {X : Addr → Prop} {fr : Bool} {d : V} {Q : Value → Shared → Prop} (h : Post s X fr d Q) {h₁ : Heap} {tk : Nat} (l : Le X s.heap h₁) : Post { s with heap := h₁, toks := tk } X fr d Q :=
  fun v h' tk' l' r f => h v h' tk' (l.trans l') r fun e => (f e).imp fun b o q => ⟨q.1, q.2.1, l.keep _ _ q.1 q.2.1 q.2.2⟩

theorem Evs.weak {e : Expr} {d : V} {fr : Bool} (h : Evs K p w n sc xs ρ e fr d) : Evs K p w n sc xs ρ e false d :=
  fun A E s X env Q r eo wd lv va po => h A E s X env Q r eo wd lv va (po.weak)
theorem Evs.cast {e : Expr} {d d' : V} {fr : Bool} (h : Evs K p w n sc xs ρ e fr d) (q : d = d') : Evs K p w n sc xs ρ e fr d' := q ▸ h

theorem VarAt.load {env : Env} {s : Shared} {X : Addr → Prop} {x : Str} {d : V} {M : Model} {A : Around} {E : Value → Shared → Prop} {Q : Value → Shared → Prop} (eo : EnvOk sc env) (va : VarAt sc env s.heap X x d) (hn : (x == ("__classdict__" : Str)) = false)
    (h : ∀ v, Rep s.heap X v d → Q v s) : wpAny M A (loadName env x) Q E s := by
  have hk : env.scope.kind = .function := by rw [eo.sco]; exact eo.kd
  have kk : env.kindOf x = sc.names.lookup x := by unfold Env.kindOf; rw [eo.sco]
  rcases va with ⟨a, m, v, n, e, r⟩ | ⟨a, c, v, e, n1, n2, i, r, _⟩
  · exact wpAny_loadName_local hk (kk.trans a) n e (h v r)
  · rcases a with a | a
    · exact wpAny_loadName_cell hk (kk.trans a) e i (h v r)
    · exact wpAny_loadName_free hk (kk.trans a) e i (h v r) hn

theorem Evs.name {x : Str} {pos : Pos} {d : V} (i : Nat) (hx : xs[i]? = some x) (hd : ρ[i]? = some (some d)) (h1 : (x == ("__debug__" : Str)) = false) (h2 : (x == ("__classdict__" : Str)) = false) : Evs K p w n sc xs ρ (.Name x pos) false d :=
  fun A E s X env Q r eo wd lv va po => wpAny_Name (VarAt.load eo (va i x d hx hd) h2 fun v rv => po.now s.toks rv) h1
theorem Evs.int {i : Int} {k : Nat} {pos : Pos} : Evs K p w n sc xs ρ (.Constant (.int i) k pos) false (.int i) :=
  fun A E s X env Q r eo wd lv va po => wpAny_Constant_int (po.now (s.toks + 1) (.int _ _))
theorem Evs.boolc {b : Bool} {k : Nat} {pos : Pos} : Evs K p w n sc xs ρ (.Constant (.bool b) k pos) false (.bool b) :=
  fun A E s X env Q r eo wd lv va po => wpAny_Constant_bool (po.now s.toks (.bool _))
theorem Evs.nonec {k : Nat} {pos : Pos} : Evs K p w n sc xs ρ (.Constant .none k pos) false .none :=
  fun A E s X env Q r eo wd lv va po => wpAny_Constant_none (po.now s.toks .none)
theorem Evs.strc {x : Str} {k : Nat} {pos : Pos} : Evs K p w n sc xs ρ (.Constant (.str x) k pos) false (.str x) :=
  fun A E s X env Q r eo wd lv va po => wpAny_Constant_str (po.now (s.toks + 1) (.str _ _))
theorem Evs.bytesc {x : List UInt8} {k : Nat} {pos : Pos} : Evs K p w n sc xs ρ (.Constant (.bytes x) k pos) false (.bytes x.toArray) :=
  fun A E s X env Q r eo wd lv va po => by
    show wpAny _ _ (mkTextBytes x.toArray) _ _ _
    unfold mkTextBytes
    exact wpAny_bind (wpAny_fresh (wpAny_pure (po.now (s.toks + 1) (.bytes _ _))))

/-- two parts, one behind the other -/
theorem Evs.two {s : Shared} {X : Addr → Prop} {env : Env} {A : Around} {E : Value → Shared → Prop} {e : Expr} {d : V} {Q : Value → Shared → Prop} (h : Evs K p w n sc xs ρ e false d)
    (r : Rm n A) (eo : EnvOk sc env) (wd : Wd K s.heap) (lv : Live K X s.heap) (va : Vars sc env s.heap X xs ρ)
    (k : ∀ v h' tk, Le X s.heap h' → Rep h' X v d → Wd K h' → Live K X h' → Vars sc env h' X xs ρ → Q v { s with heap := h', toks := tk }) : wpAny (model p w) A (eval e env) Q E s :=
  h A E s X env Q r eo wd lv va fun v h' tk l rp _ => k v h' tk l rp (wd.le l) (lv.le l) (va.le eo l)

theorem Evs.binInt {l rr : Expr} {op : Operator} {pos : Pos} {a b c : Int} (hop : ∀ (A : Around) (E : Value → Shared → Prop) (s : Shared) (t u : Tok) (Q : Value → Shared → Prop), Rm n A → (∀ tk, Q (.int c tk) { s with toks := s.toks + 1 }) → wpAny (model p w) A (binaryOp op (.int a t) (.int b u)) Q E s)
    (h1 : Evs K p w n sc xs ρ l false (.int a)) (h2 : Evs K p w n sc xs ρ rr false (.int b)) : Evs K p w n sc xs ρ (.BinOp l op rr pos) false (.int c) :=
  fun A E s X env Q r eo wd lv va po => wpAny_BinOp (h1.two r eo wd lv va fun v h' tk l1 rp wd lv va => h2.two (s := { s with heap := h', toks := tk }) r eo wd lv va fun v2 h'' tk2 l2 rp2 wd lv va => by
    cases rp using Rep.casesInt; cases rp2 using Rep.casesInt
    exact hop _ _ _ _ _ _ r fun tk3 => po _ h'' (tk2 + 1) (l1.trans l2) (.int _ _) ff)
theorem Evs.add {l rr : Expr} {pos : Pos} {a b : Int} (h1 : Evs K p w n sc xs ρ l false (.int a)) (h2 : Evs K p w n sc xs ρ rr false (.int b)) : Evs K p w n sc xs ρ (.BinOp l .Add rr pos) false (.int (a + b)) :=
  .binInt (fun _ _ _ _ _ _ _ h => P.add_int (h _)) h1 h2
theorem Evs.sub {l rr : Expr} {pos : Pos} {a b : Int} (h1 : Evs K p w n sc xs ρ l false (.int a)) (h2 : Evs K p w n sc xs ρ rr false (.int b)) : Evs K p w n sc xs ρ (.BinOp l .Sub rr pos) false (.int (a - b)) :=
  .binInt (fun _ _ _ _ _ _ _ h => P.sub_int (h _)) h1 h2
theorem Evs.floordiv {l rr : Expr} {pos : Pos} {a b : Int} (h1 : Evs K p w n sc xs ρ l false (.int a)) (h2 : Evs K p w n sc xs ρ rr false (.int b)) (hb : b ≠ 0) (hs : b.natAbs < 1073741824) : Evs K p w n sc xs ρ (.BinOp l .FloorDiv rr pos) false (.int (a.fdiv b)) :=
  .binInt (fun _ _ _ _ _ _ _ h => floordiv_int hb (h _) (.inl (PyProof.noPylong_small hs))) h1 h2
theorem Evs.mod {l rr : Expr} {pos : Pos} {a b : Int} (h1 : Evs K p w n sc xs ρ l false (.int a)) (h2 : Evs K p w n sc xs ρ rr false (.int b)) (hb : b ≠ 0) (hs : b.natAbs < 1073741824) : Evs K p w n sc xs ρ (.BinOp l .Mod rr pos) false (.int (a.fmod b)) :=
  .binInt (fun _ _ _ _ _ _ _ h => mod_int hb (h _)) h1 h2
theorem Evs.neg {x : Expr} {pos : Pos} {a : Int} (h1 : Evs K p w n sc xs ρ x false (.int a)) : Evs K p w n sc xs ρ (.UnaryOp .USub x pos) false (.int (-a)) :=
  fun A E s X env Q r eo wd lv va po => wpAny_UnaryOp (h1.two r eo wd lv va fun v h' tk l1 rp wd lv va => by
    cases rp using Rep.casesInt
    exact P.neg_int (po _ h' (tk + 1) l1 (.int _ _) ff))

/-! comparisons -/
theorem Evs.cmp {l rr : Expr} {op : CmpOp} {pos : Pos} {d e : V} {c : Bool}
    (hop : ∀ (A : Around) (E : Value → Shared → Prop) (s : Shared) (X : Addr → Prop) (a b : Value) (Q : Value → Shared → Prop), Rm n A → Wd K s.heap → Rep s.heap X a d → Rep s.heap X b e → (Q (.bool c) s) → wpAny (model p w) A (compareOp op a b) Q E s)
    (h1 : Evs K p w n sc xs ρ l false d) (h2 : Evs K p w n sc xs ρ rr false e) (hm : behindInMarks op rr = false := by rfl) : Evs K p w n sc xs ρ (.Compare l [op] [rr] pos) false (.bool c) :=
  fun A E s X env Q r eo wd lv va po => wpAny_Compare1 (h1.two r eo wd lv va fun v h' tk l1 rp wd lv va => h2.two (s := { s with heap := h', toks := tk }) r eo wd lv va fun v2 h'' tk2 l2 rp2 wd lv va =>
    hop _ _ _ _ _ _ _ r wd (rp.le l2) rp2 (po _ h'' tk2 (l1.trans l2) (.bool _) ff)) hm
theorem Evt.cmp {l rr : Expr} {op : CmpOp} {pos : Pos} {d e : V} {c : Bool}
    (hop : ∀ (A : Around) (E : Value → Shared → Prop) (s : Shared) (X : Addr → Prop) (a b : Value) (Q : Value → Shared → Prop), Rm n A → Wd K s.heap → Rep s.heap X a d → Rep s.heap X b e → (Q (.bool c) s) → wpAny (model p w) A (compareOp op a b) Q E s)
    (h1 : Evs K p w n sc xs ρ l false d) (h2 : Evs K p w n sc xs ρ rr false e) (hm : behindInMarks op rr = false := by rfl) : Evt K p w n sc xs ρ (.Compare l [op] [rr] pos) c :=
  fun A E s X env Q r eo wd lv va po => wpAny_isTrue_Compare1 (h1.two r eo wd lv va fun v h' tk l1 rp wd lv va => h2.two (s := { s with heap := h', toks := tk }) r eo wd lv va fun v2 h'' tk2 l2 rp2 wd lv va =>
    hop _ _ _ _ _ _ _ r wd (rp.le l2) rp2 (wpAny_truthy_bool (po h'' tk2 (l1.trans l2)))) hm

noncomputable abbrev CmpIs (K : Frag) (p : Program) (w : World) (n : Nat) (op : CmpOp) (d e : V) (c : Bool) : Prop := ∀ (A : Around) (E : Value → Shared → Prop) (s : Shared) (X : Addr → Prop) (a b : Value) (Q : Value → Shared → Prop), Rm n A → Wd K s.heap → Rep s.heap X a d → Rep s.heap X b e → (Q (.bool c) s) → wpAny (model p w) A (compareOp op a b) Q E s
theorem cmp_lt {a b : Int} : CmpIs K p w n .Lt (.int a) (.int b) (decide (a < b)) := fun A E s X v u Q r wd ra rb h => by cases ra using Rep.casesInt; cases rb using Rep.casesInt; exact P.lt_int h
theorem cmp_le {a b : Int} : CmpIs K p w n .LtE (.int a) (.int b) (decide (a ≤ b)) := fun A E s X v u Q r wd ra rb h => by cases ra using Rep.casesInt; cases rb using Rep.casesInt; exact P.le_int h
theorem cmp_gt {a b : Int} : CmpIs K p w n .Gt (.int a) (.int b) (decide (a > b)) := fun A E s X v u Q r wd ra rb h => by cases ra using Rep.casesInt; cases rb using Rep.casesInt; exact P.gt_int h
theorem cmp_ge {a b : Int} : CmpIs K p w n .GtE (.int a) (.int b) (decide (a ≥ b)) := fun A E s X v u Q r wd ra rb h => by cases ra using Rep.casesInt; cases rb using Rep.casesInt; exact P.ge_int h
theorem cmp_eqInt {a b : Int} : CmpIs K p w n .Eq (.int a) (.int b) (a == b) := fun A E s X v u Q r wd ra rb h => by cases ra using Rep.casesInt; cases rb using Rep.casesInt; exact P.eq_int h
theorem cmp_neInt {a b : Int} : CmpIs K p w n .NotEq (.int a) (.int b) (a != b) := fun A E s X v u Q r wd ra rb h => by cases ra using Rep.casesInt; cases rb using Rep.casesInt; exact P.ne_int h

/-! plain data, as the library's PyData -/
mutual
noncomputable def V.py : V → PyData
  | .none => .none
  | .bool b => .bool b
  | .int i => .int i
  | .str x => .str x
  | .tuple xs => .tuple (V.pys xs)
  | .list xs => .list (V.pys xs)
  | _ => .none
noncomputable def V.pys : List V → List PyData
  | [] => []
  | x :: xs => x.py :: V.pys xs
end
mutual
noncomputable def V.plain : V → Bool
  | .none | .bool _ | .int _ => true
  | .str x => PyData.strOk x
  | .tuple xs | .list xs => V.plains xs
  | _ => false
noncomputable def V.plains : List V → Bool
  | [] => true
  | x :: xs => x.plain && V.plains xs
end
mutual
theorem V.plain_lay : ∀ d : V, d.plain = true → d.py.canLay0 = true
  | .none, _ | .bool _, _ | .int _, _ => rfl
  | .str x, h => h
  | .tuple xs, h => V.plains_lay xs h
  | .list xs, h => V.plains_lay xs h
  | .bytes _, h | .inst _ _ _, h | .range _ _ _, h | .ty _, h | .fn _, h | .lam _ _, h | .idict _, h => by exact ff h
theorem V.plains_lay : ∀ xs : List V, V.plains xs = true → PyData.canLayAll0 (V.pys xs) = true
  | [], _ => rfl
  | x :: xs, h => by
    have h' : x.plain = true ∧ V.plains xs = true := by simpa [V.plains] using h
    simp only [V.pys, PyData.canLayAll0, V.plain_lay x h'.1, V.plains_lay xs h'.2, Bool.and_self]
end
theorem Rep.reads {h : Heap} {X : Addr → Prop} {v : Value} {d : V} (r : Rep h X v d) : d.plain = true → ∃ as, Reads h v d.py as :=
  (Rep.ind (m1 := fun v d => d.plain = true → ∃ as, Reads h v d.py as) (m2 := fun v d => V.plains d = true → ∃ as, ReadsAll h v (V.pys d) as) (m3 := fun _ _ => True) (m4 := fun _ _ => True) (fun _ => ⟨_, Reads.none⟩) (fun b _ => ⟨_, Reads.bool b⟩) (fun i t _ => ⟨_, Reads.int i t⟩) (fun x t _ => ⟨_, Reads.str x t⟩) (fun _ _ e => ff e)
    (fun a b c e f q => (f q).elim fun _ r => ⟨_, Reads.tuple a b c r⟩) (fun a b c e f q => (f q).elim fun _ r => ⟨_, Reads.list a b c r⟩) (fun _ _ _ _ _ _ e => ff e) (fun _ _ e => ff e) (fun _ e => ff e) (fun _ e => ff e) (fun _ _ _ _ _ _ _ _ _ _ _ _ _ _ _ _ _ e => ff e) (fun _ _ _ _ e => ff e)
    (fun _ => ⟨_, ReadsAll.nil⟩) (fun a b e => have e' := Bool.and_eq_true_iff.mp e; (a e'.1).elim fun _ r => (b e'.2).elim fun _ q => ⟨_, ReadsAll.cons r q⟩) trivial (fun _ _ => trivial) trivial fun _ _ _ _ => trivial).1 r
noncomputable def V.eqv (a b : V) : Bool := PyData.eqv a.py b.py
theorem Rm.cmp {n : Nat} {A : Around} {d : Nat} (r : Rm n A) (h : d ≤ 60) : A.units + d < cLine := by
  have := r.un
  have q : cLine = 9900 := rfl
  omega
theorem cmp_eq {d e : V} (hd : d.plain = true) (he : e.plain = true) (hz : d.py.depth ≤ 60) : CmpIs K p w n .Eq d e (d.eqv e) := fun A E s X v u Q r wd ra rb h => by
  obtain ⟨as, ha⟩ := ra.reads hd
  obtain ⟨bs, hb⟩ := rb.reads he
  exact SeqAt.eqOverData _ _ _ _ _ _ _ _ _ _ _ _ ha hb (d.plain_lay hd) (e.plain_lay he) (r.cmp (Nat.le_trans (Nat.min_le_left _ _) hz)) h
theorem cmp_ne {d e : V} (hd : d.plain = true) (he : e.plain = true) (hz : d.py.depth ≤ 60) : CmpIs K p w n .NotEq d e (!d.eqv e) := fun A E s X v u Q r wd ra rb h => by
  obtain ⟨as, ha⟩ := ra.reads hd
  obtain ⟨bs, hb⟩ := rb.reads he
  exact SeqAt.neOverData _ _ _ _ _ _ _ _ _ _ _ _ ha hb (d.plain_lay hd) (e.plain_lay he) (r.cmp (Nat.le_trans (Nat.min_le_left _ _) hz)) h
theorem cmp_in {d : V} {es : List V} (hd : d.plain = true) (he : V.plains es = true) (hz : d.py.depth ≤ 50) : CmpIs K p w n .In d (.list es) (es.any fun y => y.eqv d) := fun A E s X v u Q r wd ra rb h => by
  obtain ⟨as, ha⟩ := ra.reads hd
  obtain ⟨bs, hb⟩ := rb.reads (show (V.list es).plain = true from he)
  refine SeqAt.in_list_reads hb ha (V.plains_lay _ he) (d.plain_lay hd) ?_ ?_
  · have := r.un
    have q : cLine = 9900 := rfl
    have := Nat.min_le_right (PyData.depthAll (V.pys es)) d.py.depth
    omega
  · have e : ∀ es : List V, (V.pys es).any (fun y => y.eqv d.py) = es.any fun y => y.eqv d := by
      intro es
      induction es with
      | nil => rfl
      | cons x es ih => simp only [V.pys, List.any_cons, ih]; rfl
    rw [e]; exact h
theorem cmp_notIn {d : V} {es : List V} (hd : d.plain = true) (he : V.plains es = true) (hz : d.py.depth ≤ 50) : CmpIs K p w n .NotIn d (.list es) (!es.any fun y => y.eqv d) := fun A E s X v u Q r wd ra rb h => by
  obtain ⟨as, ha⟩ := ra.reads hd
  obtain ⟨bs, hb⟩ := rb.reads (show (V.list es).plain = true from he)
  refine SeqAt.notIn_list_reads hb ha (V.plains_lay _ he) (d.plain_lay hd) ?_ ?_
  · have := r.un
    have q : cLine = 9900 := rfl
    have := Nat.min_le_right (PyData.depthAll (V.pys es)) d.py.depth
    omega
  · have e : ∀ es : List V, (V.pys es).any (fun y => y.eqv d.py) = es.any fun y => y.eqv d := by
      intro es
      induction es with
      | nil => rfl
      | cons x es ih => simp only [V.pys, List.any_cons, ih]; rfl
    rw [e]; exact h

/-! tests -/
theorem Evt.not {x : Expr} {pos : Pos} {b : Bool} (h : Evt K p w n sc xs ρ x b) : Evt K p w n sc xs ρ (.UnaryOp .Not x pos) (!b) :=
  fun A E s X env Q r eo wd lv va po => wpAny_isTrue_Not (h A E s X env _ r eo wd lv va fun h' tk l => po h' tk l)
theorem Evt.val {e : Expr} {b : Bool} (h : Evs K p w n sc xs ρ e false (.bool b)) (he : ∀ env, isTrue e env (eval e env) = (do let v ← eval e env; standAt e.pos; holding [v] (truthy v)) := by intro; rfl) : Evt K p w n sc xs ρ e b :=
  fun A E s X env Q r eo wd lv va po => wpAny_isTrue_value (h.two r eo wd lv va fun v h' tk l1 rp wd lv va => by
    cases rp using Rep.casesBool
    exact wpAny_truthy_bool (po h' tk l1)) (he env)
/-- and, or: a list of tests -/
inductive EvAnd (K : Frag) (p : Program) (w : World) (n : Nat) (sc : Scope) (xs : List Str) (ρ : List (Option V)) : List Expr → Bool → Prop
  | nil : EvAnd K p w n sc xs ρ [] true
  | no {e : Expr} {es : List Expr} : Evt K p w n sc xs ρ e false → EvAnd K p w n sc xs ρ (e :: es) false
  | yes {e : Expr} {es : List Expr} {b : Bool} : Evt K p w n sc xs ρ e true → EvAnd K p w n sc xs ρ es b → EvAnd K p w n sc xs ρ (e :: es) b
inductive EvOr (K : Frag) (p : Program) (w : World) (n : Nat) (sc : Scope) (xs : List Str) (ρ : List (Option V)) : List Expr → Bool → Prop
  | nil : EvOr K p w n sc xs ρ [] false
  | yes {e : Expr} {es : List Expr} : Evt K p w n sc xs ρ e true → EvOr K p w n sc xs ρ (e :: es) true
  | no {e : Expr} {es : List Expr} {b : Bool} : Evt K p w n sc xs ρ e false → EvOr K p w n sc xs ρ es b → EvOr K p w n sc xs ρ (e :: es) b
theorem Evt.and {es : List Expr} {pos : Pos} {b : Bool} (h : EvAnd K p w n sc xs ρ es b) : Evt K p w n sc xs ρ (.BoolOp .And es pos) b :=
  fun A E s X env Q r eo wd lv va po => wpAny_isTrue_BoolOp (by
    induction h generalizing s with
    | nil => exact wpAny_allTrue_And_nil (po s.heap s.toks (.refl _))
    | no h => exact wpAny_allTrue_And_cons (h A E s X env _ r eo wd lv va fun h' tk l => po h' tk l)
    | yes h _ ih => exact wpAny_allTrue_And_cons (h A E s X env _ r eo wd lv va fun h' tk l => ih { s with heap := h', toks := tk } (wd.le l) (lv.le l) (va.le eo l) fun h'' tk' l' => po h'' tk' (l.trans l')))
theorem Evt.or {es : List Expr} {pos : Pos} {b : Bool} (h : EvOr K p w n sc xs ρ es b) : Evt K p w n sc xs ρ (.BoolOp .Or es pos) b :=
  fun A E s X env Q r eo wd lv va po => wpAny_isTrue_BoolOp (by
    induction h generalizing s with
    | nil => exact wpAny_allTrue_Or_nil (po s.heap s.toks (.refl _))
    | yes h => exact wpAny_allTrue_Or_cons (h A E s X env _ r eo wd lv va fun h' tk l => po h' tk l)
    | no h _ ih => exact wpAny_allTrue_Or_cons (h A E s X env _ r eo wd lv va fun h' tk l => ih { s with heap := h', toks := tk } (wd.le l) (lv.le l) (va.le eo l) fun h'' tk' l' => po h'' tk' (l.trans l')))
theorem Evs.not {x : Expr} {pos : Pos} {b : Bool} (h : Evs K p w n sc xs ρ x false (.bool b)) : Evs K p w n sc xs ρ (.UnaryOp .Not x pos) false (.bool (!b)) :=
  fun A E s X env Q r eo wd lv va po => wpAny_UnaryOp (h.two r eo wd lv va fun v h' tk l1 rp wd lv va => by
    cases rp using Rep.casesBool
    exact not_value (wpAny_truthy_bool (po _ h' tk l1 (.bool _) ff)))
theorem Evs.and2 {x y : Expr} {pos : Pos} {a b : Bool} (h1 : Evs K p w n sc xs ρ x false (.bool a)) (h2 : a = true → Evs K p w n sc xs ρ y false (.bool b)) : Evs K p w n sc xs ρ (.BoolOp .And [x, y] pos) false (.bool (a && b)) :=
  fun A E s X env Q r eo wd lv va po => wpAny_And2 (h1.two r eo wd lv va fun v h' tk l1 rp wd lv va => by
    cases rp using Rep.casesBool
    refine wpAny_truthy_bool ?_
    cases a with
    | true => exact (h2 rfl).two (s := { s with heap := h', toks := tk }) r eo wd lv va fun v2 h'' tk2 l2 rp2 wd lv va => po _ h'' tk2 (l1.trans l2) rp2 ff
    | false => exact po _ h' tk l1 (.bool _) ff)
theorem Evs.or2 {x y : Expr} {pos : Pos} {a b : Bool} (h1 : Evs K p w n sc xs ρ x false (.bool a)) (h2 : a = false → Evs K p w n sc xs ρ y false (.bool b)) : Evs K p w n sc xs ρ (.BoolOp .Or [x, y] pos) false (.bool (a || b)) :=
  fun A E s X env Q r eo wd lv va po => wpAny_Or2 (h1.two r eo wd lv va fun v h' tk l1 rp wd lv va => by
    cases rp using Rep.casesBool
    refine wpAny_truthy_bool ?_
    cases a with
    | false => exact (h2 rfl).two (s := { s with heap := h', toks := tk }) r eo wd lv va fun v2 h'' tk2 l2 rp2 wd lv va => po _ h'' tk2 (l1.trans l2) rp2 ff
    | true => exact po _ h' tk l1 (.bool _) ff)
theorem Evs.ite {t x y : Expr} {pos : Pos} {b : Bool} {d : V} (h0 : Evt K p w n sc xs ρ t b) (h1 : b = true → Evs K p w n sc xs ρ x false d) (h2 : b = false → Evs K p w n sc xs ρ y false d) : Evs K p w n sc xs ρ (.IfExp t x y pos) false d :=
  fun A E s X env Q r eo wd lv va po => wpAny_IfExp (h0 A E s X env _ r eo wd lv va fun h' tk l => by
    cases b with
    | true => exact h1 rfl A E _ X env _ r eo (wd.le l) (lv.le l) (va.le eo l) (po.after l)
    | false => exact h2 rfl A E _ X env _ r eo (wd.le l) (lv.le l) (va.le eo l) (po.after l))
/-- low <= code <= high, as a test -/
theorem Evt.chain2 {l m h : Expr} {o1 o2 : CmpOp} {pos : Pos} {d e f : V} {c1 c2 : Bool} (k1 : CmpIs K p w n o1 d e c1) (k2 : CmpIs K p w n o2 e f c2) (h1 : Evs K p w n sc xs ρ l false d) (h2 : Evs K p w n sc xs ρ m false e) (h3 : Evs K p w n sc xs ρ h false f) (hm : behindInMarks o2 h = false := by rfl) :
    Evt K p w n sc xs ρ (.Compare l [o1, o2] [m, h] pos) (c1 && c2) :=
  fun A E s X env Q r eo wd lv va po => by
    have e1 : isTrue (.Compare l [o1, o2] [m, h] pos) env (eval (.Compare l [o1, o2] [m, h] pos) env) = (do testChain pos (← eval l env) [o1, o2] [eval m env, markedBehindIn o2 h (eval h env)]) := rfl
    rw [e1, markedBehindIn_of_false hm]
    refine wpAny_bind (h1.two r eo wd lv va fun v h' tk l1 rp wd lv va => ?_)
    unfold testChain
    refine wpAny_bind (wpAny_holding (h2.two (s := { s with heap := h', toks := tk }) r eo wd lv va fun v2 h'' tk2 l2 rp2 wd lv va => ?_))
    refine wpAny_bind (wpAny_standAt (wpAny_bind (wpAny_holding (k1 _ _ _ _ _ _ _ r wd (rp.le l2) rp2 ?_))))
    refine wpAny_bind (wpAny_release' (wpAny_bind (wpAny_holding (wpAny_truthy_bool ?_))))
    cases c1 with
    | false => exact wpAny_pure (po h'' tk2 (l1.trans l2))
    | true =>
      simp only [if_true]
      unfold testChain
      refine wpAny_bind (wpAny_holding (h3.two (s := { s with heap := h'', toks := tk2 }) r eo wd lv va fun v3 h3' tk3 l3 rp3 wd lv va => ?_))
      refine wpAny_bind (wpAny_standAt (wpAny_bind (wpAny_operateT (k2 _ _ _ _ _ _ _ r wd (rp2.le l3) rp3 ?_))))
      exact wpAny_holding (wpAny_truthy_bool (po h3' tk3 ((l1.trans l2).trans l3)))

end Mine

-- B3
namespace Mine
variable {K : Frag} {p : Program} {w : World} {n : Nat} {sc : Scope} {xs : List Str} {ρ : List (Option V)}

/-- no star -/
noncomputable def unstar : Expr → Bool
  | .Starred .. => false
  | _ => true
theorem starEach_plain {e : Expr} {rest : List Expr} {env : Env} (h : unstar e = true) : starEach (e :: rest) env = (false, eval e env) :: starEach rest env := by
  cases e <;> first | rfl | exact ff h
theorem EvL.nil : EvL K p w n sc xs ρ [] [] :=
  fun A E s X env pos Q r eo wd lv va po => wpAny_items_nil (po [] s.heap s.toks (.refl _) .nil)
theorem EvL.cons {e : Expr} {es : List Expr} {d : V} {ds : List V} (h : Evs K p w n sc xs ρ e false d) (t : EvL K p w n sc xs ρ es ds) (u : unstar e = true := by rfl) : EvL K p w n sc xs ρ (e :: es) (d :: ds) :=
  fun A E s X env pos Q r eo wd lv va po => wpAny_items_cons (h.two r eo wd lv va fun v h' tk l1 rp wd lv va =>
    t A E { s with heap := h', toks := tk } X env pos _ r eo wd lv va fun vs h'' tk' l2 rps => po (v :: vs) h'' tk' (l1.trans l2) (.cons (rp.le l2) rps)) (starEach_plain u)

/-- a new object at the heap's end -/
theorem new_keep {K : Frag} {h : Heap} {X : Addr → Prop} (lv : Live K X h) (o : Obj) (hf : o.isFreed = false) : (h.push o).get? h.objs.size = some o ∧ Av X h.objs.size ∧ ∀ q, ¬ HP h h.objs.size q :=
  ⟨Heap.get?_push_size _ hf, lv.new (get?_size h), fun q z => by have := z.2.2; rw [get?_size] at this; exact nn this⟩
theorem fresh_seq {h h' : Heap} {a : Addr} {o : Obj} (hn : ∀ q, ¬ HP h a q) (ho : h'.get? a = some o) (hd : o = { cls := o.cls, data := o.data }) : FreshV (HP h) h' (.ref a) :=
  ⟨a, rfl, fun C dx e => (by rw [ho] at e; cases e; cases hd), fun q e c => (by rw [ho] at e; cases e; rw [← c]; exact ⟨hn, hd⟩)⟩

theorem Evs.tuple {es : List Expr} {ds : List V} {k : Nat} {pos : Pos} (h : EvL K p w n sc xs ρ es ds) (hz : ds.length ≤ sizeLine := by exact Nat.le_of_ble_eq_true rfl) : Evs K p w n sc xs ρ (.Tuple es k pos) false (.tuple ds) :=
  fun A E s X env Q r eo wd lv va po => wpAny_Tuple (h A E s X env pos _ r eo wd lv va fun vs h' tk l rps => ⟨by rw [rps.length]; exact hz, by
    obtain ⟨a, b, c⟩ := new_keep (lv.le l) { cls := .type "tuple", data := .seq vs.toArray } rfl
    exact po (.ref h'.objs.size) (h'.push { cls := .type "tuple", data := .seq vs.toArray }) tk (l.trans (.push _ _)) (.tuple a rfl rfl b (rps.le (.push _ _))) ff⟩)
theorem Evs.list {es : List Expr} {ds : List V} {pos : Pos} {fr : Bool} (h : EvL K p w n sc xs ρ es ds) (hz : ds.length ≤ sizeLine := by exact Nat.le_of_ble_eq_true rfl) : Evs K p w n sc xs ρ (.List es pos) fr (.list ds) :=
  fun A E s X env Q r eo wd lv va po => wpAny_List (h A E s X env pos _ r eo wd lv va fun vs h' tk l rps => ⟨by rw [rps.length]; exact hz, by
    obtain ⟨a, b, c⟩ := new_keep (lv.le l) { cls := .type "list", data := .seq vs.toArray } rfl
    exact po (.ref h'.objs.size) (h'.push { cls := .type "list", data := .seq vs.toArray }) tk (l.trans (.push _ _)) (.list a rfl rfl b (rps.le (.push _ _)))
      (fun _ => fresh_seq (fun o q => c o ⟨q.1, q.2.1, l.keep _ _ q.1 q.2.1 q.2.2⟩) a rfl)⟩)

/-! names of the top -/
theorem Wd.glob {h : Heap} (wd : Wd K h) {x : Str} {v : Value} (e : nsIn K mainGlobals x = some (some v)) : ∃ mg, h.Ns mainGlobals mg ∧ mg x = some v := by
  obtain ⟨mg, g⟩ := wd.g
  exact ⟨mg, g, mg_of wd.k g e⟩
theorem Evs.gname {x : Str} {pos : Pos} {v : Value} {d : V} (hk : sc.names.lookup x = some .globalImplicit) (e : nsIn K mainGlobals x = some (some v)) (hd : ∀ (h : Heap) (X : Addr → Prop), Wd K h → Live K X h → Rep h X v d) (h1 : (x == ("__debug__" : Str)) = false) : Evs K p w n sc xs ρ (.Name x pos) false d :=
  fun A E s X env Q r eo wd lv va po => by
    obtain ⟨mg, g, q⟩ := wd.glob e
    exact Calls.Name_function_global (by rw [eo.sco]; exact eo.kd) (by unfold Env.kindOf; rw [eo.sco]; exact hk) (Calls.loadGlobal_global (by rw [eo.gl]; exact g) q (po.now s.toks (hd _ _ wd lv))) h1
theorem eval_bname {M : Model} {x : Str} {pos : Pos} {v : Value} {A : Around} {E : Value → Shared → Prop} {s : Shared} {env : Env} {Q : Value → Shared → Prop} (eo : EnvOk sc env) (wd : Wd K s.heap) (hk : sc.names.lookup x = some .globalImplicit) (e : nsIn K mainGlobals x = some none) (hb : bootBuiltins x = some v) (hn : x ≠ "__name__") (h1 : (x == ("__debug__" : Str)) = false) (h : Q v s) : wpAny M A (eval (.Name x pos) env) Q E s := by
  obtain ⟨mg, g⟩ := wd.g
  obtain ⟨mb, b, hb'⟩ := wd.b
  exact Calls.Name_function_global (by rw [eo.sco]; exact eo.kd) (by unfold Env.kindOf; rw [eo.sco]; exact hk) (Calls.loadGlobal_builtin (by rw [eo.gl]; exact g) (ns_none_of wd.k g e) (by rw [eo.bi]; exact b) ((hb' x hn).trans hb) h) h1
theorem eval_gname {M : Model} {x : Str} {pos : Pos} {v : Value} {A : Around} {E : Value → Shared → Prop} {s : Shared} {env : Env} {Q : Value → Shared → Prop} (eo : EnvOk sc env) (wd : Wd K s.heap) (hk : sc.names.lookup x = some .globalImplicit) (e : nsIn K mainGlobals x = some (some v)) (h1 : (x == ("__debug__" : Str)) = false) (h : Q v s) : wpAny M A (eval (.Name x pos) env) Q E s := by
  obtain ⟨mg, g, q⟩ := wd.glob e
  exact Calls.Name_function_global (by rw [eo.sco]; exact eo.kd) (by unfold Env.kindOf; rw [eo.sco]; exact hk) (Calls.loadGlobal_global (by rw [eo.gl]; exact g) q h) h1

/-! calls -/
noncomputable def KeepOk (p : Program) (w : World) (K : Frag) (f : Value) : Prop := ∀ h, K.In h → ∃ k, (k = Keeper.frame ∨ k = Keeper.machine ∨ k = Keeper.boundFrame) ∧ Looks (model p w) h (keeperOf f) k
theorem KeepOk.of {f : Value} (e : keepIn K f = true) : KeepOk p w K f := fun h X => keeps_K e h X
theorem KeepOk.builtin {id : String} : KeepOk p w K (.builtin id) := fun h X => ⟨.machine, .inr (.inl rfl), .of_pure rfl⟩
theorem KeepOk.type {id : String} : KeepOk p w K (.type id) := fun h X => ⟨.machine, .inr (.inl rfl), .of_pure rfl⟩

theorem evalArgs_V {f : Value} {es : List Expr} {ds : List V} {pos : Pos} {A : Around} {E : Value → Shared → Prop} {s : Shared} {X : Addr → Prop} {env : Env} {Q : Args → Shared → Prop} (t : EvL K p w n sc xs ρ es ds) (hu : es.all unstar = true)
    (r : Rm n A) (eo : EnvOk sc env) (wd : Wd K s.heap) (lv : Live K X s.heap) (va : Vars sc env s.heap X xs ρ)
    (h : ∀ vs h' tk, Le X s.heap h' → RepL h' X vs ds → Q ⟨vs, []⟩ { s with heap := h', toks := tk }) : wpAny (model p w) A (evalArgs f true (backTo pos (starEach es env)) []) Q E s := by
  have t' := t A E s X env pos (fun vs s' => Q ⟨vs, []⟩ s') r eo wd lv va h
  cases es with
  | nil => exact fun Γ ps hΓ => evalArgs_nil3 (t' Γ ps hΓ) Γ ps hΓ
  | cons e es =>
    have hu' : unstar e = true := (Bool.and_eq_true_iff.mp hu).1
    rw [starEach_plain hu'] at t' ⊢
    exact Calls.evalArgs_plain t'

theorem callWith_V {f : Value} {first : List Value} {fds : List V} {es : List Expr} {ds : List V} {fr : Bool} {d : V} {pos : Pos} {A : Around} {E : Value → Shared → Prop} {s : Shared} {X : Addr → Prop} {env : Env} {Q : Value → Shared → Prop}
    (t : EvL K p w n sc xs ρ es ds) (kf : KeepOk p w K f) (c : Ctr K p w n f (fds ++ ds) fr d) (hu : es.all unstar = true) (hp : ((backTo pos (starEach es env)).any (·.1) || ([] : List (Option Str × Sem Value)).any (·.1.isNone)) = false)
    (r : Rm n A) (eo : EnvOk sc env) (wd : Wd K s.heap) (lv : Live K X s.heap) (va : Vars sc env s.heap X xs ρ) (rf : RepL s.heap X first fds) (po : Post s X fr d Q) :
    wpAny (model p w) A (callWith pos f first (backTo pos (starEach es env)) []) Q E s :=
  callWith_of (P := fun h => K.In h) hp kf (evalArgs_V t hu r eo wd lv va fun vs h' tk l rp => ⟨(wd.le l).k,
    c A E { s with heap := h', toks := tk } X (first ++ vs) Q r (wd.le l) (lv.le l) (.append rp (rf.le l)) (po.after l)⟩)
theorem plain_trees {es : List Expr} {env : Env} {pos : Pos} : es.all unstar = true → ((backTo pos (starEach es env)).any (·.1) || ([] : List (Option Str × Sem Value)).any (·.1.isNone)) = false := by
  intro h
  rw [Bool.or_eq_false_iff]
  refine ⟨?_, rfl⟩
  induction es with
  | nil => rfl
  | cons e es ih =>
    have h' := Bool.and_eq_true_iff.mp h
    rw [starEach_plain h'.1]
    exact ih h'.2
/-- f(..), f a name of the text's top -/
theorem Evs.call {x : Str} {np pos : Pos} {fv : Value} {es : List Expr} {ds : List V} {fr : Bool} {d : V} (t : EvL K p w n sc xs ρ es ds) (c : Ctr K p w n fv ds fr d) (hk : sc.names.lookup x = some .globalImplicit) (e : nsIn K mainGlobals x = some (some fv)) (kf : keepIn K fv = true)
    (hu : es.all unstar = true := by rfl) (h1 : (x == ("__debug__" : Str)) = false := by decide +kernel) : Evs K p w n sc xs ρ (.Call (.Name x np) es [] pos) fr d :=
  fun A E s X env Q r eo wd lv va po => by
    show wpAny _ _ (do callWith pos (← eval (.Name x np) env) [] (backTo pos (starEach es env)) []) _ _ _
    exact wpAny_bind (eval_gname eo wd hk e h1 (callWith_V (fds := []) t (.of kf) c hu (plain_trees hu) r eo wd lv va .nil po))
/-- f(..), f a built-in name -/
theorem Evs.bcall {x : Str} {np pos : Pos} {fv : Value} {es : List Expr} {ds : List V} {fr : Bool} {d : V} (t : EvL K p w n sc xs ρ es ds) (c : Ctr K p w n fv ds fr d) (hk : sc.names.lookup x = some .globalImplicit) (e : nsIn K mainGlobals x = some none) (hb : bootBuiltins x = some fv) (kf : KeepOk p w K fv)
    (hu : es.all unstar = true := by rfl) (h1 : (x == ("__debug__" : Str)) = false := by decide +kernel) (hn : x ≠ "__name__" := by decide +kernel) : Evs K p w n sc xs ρ (.Call (.Name x np) es [] pos) fr d :=
  fun A E s X env Q r eo wd lv va po => by
    show wpAny _ _ (do callWith pos (← eval (.Name x np) env) [] (backTo pos (starEach es env)) []) _ _ _
    exact wpAny_bind (eval_bname eo wd hk e hb hn h1 (callWith_V (fds := []) t kf c hu (plain_trees hu) r eo wd lv va .nil po))

/-! attributes -/
theorem getL_hit {x : Str} {hs : Int} {t : Tok} {v : Value} {es : List DictEntry} : getL x (⟨hs, .str x t, v⟩ :: es) = some (some v) := by
  unfold getL
  rw [List.find?_cons, show (Value.str x t).isStr x = true from beq_self_eq_true x]
theorem getL_skip {x y : Str} {hs : Int} {t : Tok} {v : Value} {es : List DictEntry} (q : y ≠ x) : getL x (⟨hs, .str y t, v⟩ :: es) = getL x es := by
  unfold getL
  rw [List.find?_cons, show (Value.str y t).isStr x = false from beq_eq_false_iff_ne.mpr q]
  rfl
theorem lk_hit {α : Type} {x : Str} {d : α} {fs : List (Str × α)} : ((x, d) :: fs).lookup x = some d := by rw [List.lookup_cons, beq_self_eq_true]
theorem lk_skip {α : Type} {x y : Str} {d : α} {fs : List (Str × α)} (q : y ≠ x) : ((y, d) :: fs).lookup x = fs.lookup x := by rw [List.lookup_cons, beq_eq_false_iff_ne.mpr (Ne.symm q)]
theorem RepF.get {h : Heap} {X : Addr → Prop} {x : Str} {d : V} {es : List DictEntry} {fs : List (Str × V)} (r : RepF h X es fs) : fs.lookup x = some d → ∃ v, getL x es = some (some v) ∧ Rep h X v d :=
  r.ind (m := fun es fs => fs.lookup x = some d → ∃ v, getL x es = some (some v) ∧ Rep h X v d) (fun e => (Option.some_ne_none _ e.symm).elim) fun {_ y _ _ _ _ _} a _ ih e => by
    by_cases q : y = x
    · subst q
      rw [lk_hit] at e
      exact ⟨_, getL_hit, Option.some.inj e ▸ a⟩
    · rw [lk_skip q] at e
      rw [getL_skip q]; exact ih e
theorem RepF.miss {h : Heap} {X : Addr → Prop} {x : Str} {es : List DictEntry} {fs : List (Str × V)} (r : RepF h X es fs) : fs.lookup x = none → getL x es = some none :=
  r.ind (m := fun es fs => fs.lookup x = none → getL x es = some none) (fun _ => rfl) fun {_ y _ _ _ _ _} a _ ih e => by
    by_cases q : y = x
    · subst q
      rw [lk_hit] at e
      exact (Option.some_ne_none _ e).elim
    · rw [lk_skip q] at e
      rw [getL_skip q]; exact ih e
theorem Rep.handed {h : Heap} {X : Addr → Prop} {v : Value} {d : V} (r : Rep h X v d) : handedIn v = true := by cases r <;> rfl
/-- what a field of an object asks of its class -/
noncomputable def fieldOk (K : Frag) (C : Addr) (x : Str) : Bool := plainGet K C x && hasDictIn K C && (match findIn K (.ref C) x with
  | some a => noGet K a
  | none => false)
theorem getAttr_V {A : Around} {E : Value → Shared → Prop} {s : Shared} {X : Addr → Prop} {v : Value} {id : Option (Addr × Addr)} {C : Addr} {fs : List (Str × V)} {x : Str} {d : V} {b : Bool} {Q : Value → Shared → Prop} (wd : Wd K s.heap) (rp : Rep s.heap X v (.inst id C fs)) (ok : fieldOk K C x = true) (e : fs.lookup x = some d)
    (h : ∀ u, Rep s.heap X u d → Q u { s with toks := s.toks + 1 }) : wpAny (model p w) A (getAttr v x b) Q E s := by
  cases rp using Rep.casesInst with
  | inst i1 i2 a1 a2 rf _ =>
    obtain ⟨u, g, ru⟩ := rf.get e
    unfold fieldOk at ok
    simp only [Bool.and_eq_true] at ok
    obtain ⟨⟨o1, o2⟩, o3⟩ := ok
    cases q : findIn K (.ref C) x with
    | none => rw [q] at o3; exact ff o3
    | some attr =>
      rw [q] at o3
      exact get_value wd.k ⟨i1, rfl, rfl, i2⟩ (plainGet_of o1).1 (findObj_own o2 q o3 (by rw [lookIn_dict]; exact g)) ru.handed (h u ru)
theorem Evs.attr {o : Expr} {x : Str} {pos : Pos} {id : Option (Addr × Addr)} {C : Addr} {fs : List (Str × V)} {d : V} (h1 : Evs K p w n sc xs ρ o false (.inst id C fs)) (e : fs.lookup x = some d) (ok : fieldOk K C x = true)
    (he : ∀ env, eval (.Attribute o x pos) env = (do let ov ← eval o env; standAt pos.atName; let r ← holding [ov] (getAttr ov x true); letTemporaryGo o ov r; pure r) := by intro; with_unfolding_all rfl) : Evs K p w n sc xs ρ (.Attribute o x pos) false d :=
  fun A E s X env Q r eo wd lv va po => Attribute_any_ (h1.two r eo wd lv va fun v h' tk l rp wd lv va =>
    getAttr_V (s := { s with heap := h', toks := tk }) wd rp ok e fun u ru => po u h' (tk + 1) l ru ff) (he env)

/-! items -/
theorem itemOk {slice : Expr} {o : Value} {k : Int} {t : Tok} (h : (match slice with | .Slice _ _ none _ => false | _ => true) = true) : subscripted slice false o (.int k t) = operate [o, .int k t] (getItem o (.int k t)) := by
  unfold subscripted
  split
  · exact ff h
  · rename_i e; exact ff e
  · rfl
noncomputable def noSlice : Expr → Bool
  | .Slice .. => false
  | _ => true
theorem subOk {slice : Expr} {o i : Value} (h : noSlice slice = true) : subscripted slice false o i = operate [o, i] (getItem o i) := by
  cases slice <;> first | rfl | exact ff h
theorem IsList.of {h : Heap} {a : Addr} {o : Obj} {vs : Array Value} {n : Nat} (h1 : h.get? a = some o) (h2 : o.cls = .type "list") (h3 : o.data = .seq vs n) : h.IsList a vs := ⟨o, h1, h2, n, h3⟩
/-- xs[k], k in bounds from the left -/
theorem Evs.item {v sl : Expr} {pos : Pos} {ds : List V} {k : Int} {d : V} (h1 : Evs K p w n sc xs ρ v false (.list ds)) (h2 : Evs K p w n sc xs ρ sl false (.int k)) (h0 : 0 ≤ k) (hk : k < 2 ^ 63) (hd : ds[k.toNat]? = some d) (hs : noSlice sl = true := by rfl) : Evs K p w n sc xs ρ (.Subscript v sl pos) false d :=
  fun A E s X env Q r eo wd lv va po => Subscript_ (h1.two r eo wd lv va fun v h' tk l rp wd lv va => h2.two (s := { s with heap := h', toks := tk }) r eo wd lv va fun v2 h'' tk2 l2 rp2 wd lv va => by
    cases rp2 using Rep.casesInt
    have rp := rp.le l2
    cases rp using Rep.casesList with
    | list a b c e f =>
      obtain ⟨u, g, ru⟩ := f.get _ _ hd
      have il := IsList.of a b c
      exact tail_any (s := { s with heap := h'', toks := tk2 }) (Heap.IsList.typeIs il) slot_list_getitem.lookup (wpAny_getItem_list il h0 hk (by simpa using g) (po u h'' tk2 (l.trans l2) ru ff)) (subOk hs))
/-- xs[-k] -/
theorem Evs.itemNeg {v sl : Expr} {pos : Pos} {ds : List V} {k : Int} {d : V} (h1 : Evs K p w n sc xs ρ v false (.list ds)) (h2 : Evs K p w n sc xs ρ sl false (.int k)) (h0 : k < 0) (hk : -(2 ^ 63) ≤ k) (hl : -(ds.length : Int) ≤ k) (hd : ds[(k + ds.length).toNat]? = some d) (hs : noSlice sl = true := by rfl) : Evs K p w n sc xs ρ (.Subscript v sl pos) false d :=
  fun A E s X env Q r eo wd lv va po => Subscript_ (h1.two r eo wd lv va fun v h' tk l rp wd lv va => h2.two (s := { s with heap := h', toks := tk }) r eo wd lv va fun v2 h'' tk2 l2 rp2 wd lv va => by
    cases rp2 using Rep.casesInt
    have rp := rp.le l2
    cases rp using Rep.casesList with
    | list a b c e f =>
      obtain ⟨u, g, ru⟩ := f.get _ _ hd
      have il := IsList.of a b c
      have hz := f.length
      rw [Array.length_toList] at hz
      exact tail_any (s := { s with heap := h'', toks := tk2 }) (Heap.IsList.typeIs il) slot_list_getitem.lookup (wpAny_getItem_list_neg il h0 (by rw [hz]; exact hl) hk (by rw [hz]; simpa using g) (po u h'' tk2 (l.trans l2) ru ff)) (subOk hs))
/-- t[k] of a tuple, k written -/
theorem Evs.itemT {v sl : Expr} {pos : Pos} {ds : List V} {k : Int} {d : V} (h1 : Evs K p w n sc xs ρ v false (.tuple ds)) (h2 : Evs K p w n sc xs ρ sl false (.int k)) (h0 : 0 ≤ k) (hk : k < 2 ^ 63) (hd : ds[k.toNat]? = some d) (hs : noSlice sl = true := by rfl) : Evs K p w n sc xs ρ (.Subscript v sl pos) false d :=
  fun A E s X env Q r eo wd lv va po => Subscript_ (h1.two r eo wd lv va fun v h' tk l rp wd lv va => h2.two (s := { s with heap := h', toks := tk }) r eo wd lv va fun v2 h'' tk2 l2 rp2 wd lv va => by
    cases rp2 using Rep.casesInt
    have rp := rp.le l2
    cases rp using Rep.casesTuple with
    | tuple a b c e f =>
      obtain ⟨u, g, ru⟩ := f.get _ _ hd
      have hlt : k.toNat < ds.length := by
        obtain ⟨q, _⟩ := List.getElem?_eq_some_iff.mp hd
        exact q
      have hz := f.length
      rw [Array.length_toList] at hz
      refine tail_any (s := { s with heap := h'', toks := tk2 }) ⟨_, a, b⟩ slot_tuple_getitem.lookup (getItem_tuple (j := k.toNat) ⟨_, a, b, _, c⟩ (by omega) hk ?_ (by simpa using g) (po u h'' tk2 (l.trans l2) ru ff)) (subOk hs)
      unfold seqIndex?
      rw [hz]
      have h3 : ¬ k < 0 := by omega
      simp only [h3, if_false]
      have h4 : (decide (0 ≤ k) && decide (k < (ds.length : Int))) = true := by
        rw [Bool.and_eq_true, decide_eq_true_eq, decide_eq_true_eq]; omega
      rw [h4]; rfl)
end Mine

-- B4
namespace Mine
variable {K : Frag} {p : Program} {w : World} {n : Nat} {sc : Scope} {xs : List Str} {ρ : List (Option V)}

/-! slices -/
inductive EvP (K : Frag) (p : Program) (w : World) (n : Nat) (sc : Scope) (xs : List Str) (ρ : List (Option V)) : Option Expr → Option Int → Prop
  | none : EvP K p w n sc xs ρ none none
  | some {e : Expr} {i : Int} : Evs K p w n sc xs ρ e false (.int i) → EvP K p w n sc xs ρ (some e) (some i)
theorem EvP.run {x : Option Expr} {k : Option Int} (h : EvP K p w n sc xs ρ x k) {s : Shared} {X : Addr → Prop} {env : Env} {A : Around} {E : Value → Shared → Prop} {Q : Value → Shared → Prop}
    (r : Rm n A) (eo : EnvOk sc env) (wd : Wd K s.heap) (lv : Live K X s.heap) (va : Vars sc env s.heap X xs ρ)
    (q : ∀ v h' tk, Le X s.heap h' → IsPart v k → Wd K h' → Live K X h' → Vars sc env h' X xs ρ → Q v { s with heap := h', toks := tk }) : wpAny (model p w) A (evalPart x env) Q E s := by
  cases h with
  | none => exact wpAny_pure (q .none s.heap s.toks (.refl _) .none wd lv va)
  | some h =>
    exact h.two r eo wd lv va fun v h' tk l rp wd lv va => (by
      cases rp using Rep.casesInt
      exact q _ h' tk l (.int _ _) wd lv va)
noncomputable def pickV (ds : List V) (lo hi st : Option Int) : List V :=
  (sliceRange (sliceBounds lo hi st ds.length).1 (sliceBounds lo hi st ds.length).2.1 (sliceBounds lo hi st ds.length).2.2).filterMap (ds[·]?)
theorem RepL.pick {h : Heap} {X : Addr → Prop} {vs : List Value} {ds : List V} (r : RepL h X vs ds) : ∀ is : List Nat, RepL h X (is.filterMap (vs[·]?)) (is.filterMap (ds[·]?))
  | [] => .nil
  | i :: is => by
    have ih := RepL.pick r is
    simp only [List.filterMap_cons]
    cases e : ds[i]? with
    | none =>
      have : vs[i]? = none := by
        rw [List.getElem?_eq_none_iff] at e ⊢
        rw [r.length]; exact e
      rw [this]; exact ih
    | some d =>
      obtain ⟨v, ev, rv⟩ := r.get i d e
      rw [ev]; exact .cons rv ih
theorem RepL.slicePick {h : Heap} {X : Addr → Prop} {vs : Array Value} {ds : List V} (r : RepL h X vs.toList ds) (lo hi st : Option Int) : RepL h X (PySem.slicePick vs lo hi st).toList (pickV ds lo hi st) := by
  have hz := r.length
  rw [Array.length_toList] at hz
  unfold PySem.slicePick pickV
  rw [hz]
  have := r.pick (sliceRange (sliceBounds lo hi st ds.length).1 (sliceBounds lo hi st ds.length).2.1 (sliceBounds lo hi st ds.length).2.2)
  simpa using this
theorem Evs.slice {v : Expr} {lower upper step : Option Expr} {pp pos : Pos} {ds : List V} {lo hi st : Option Int} {fr : Bool} (h1 : Evs K p w n sc xs ρ v false (.list ds)) (hl : EvP K p w n sc xs ρ lower lo) (hu : EvP K p w n sc xs ρ upper hi) (hs : EvP K p w n sc xs ρ step st) (h0 : st ≠ some 0) (hz : ds.length ≤ sizeLine) :
    Evs K p w n sc xs ρ (.Subscript v (.Slice lower upper step pp) pos) fr (.list (pickV ds lo hi st)) :=
  fun A E s X env Q r eo wd lv va po => Subscript_ (h1.two r eo wd lv va fun v h' tk l rp wd lv va => wpAny_Slice (hl.run (s := { s with heap := h', toks := tk }) r eo wd lv va fun vl h2 tk2 l2 pl wd lv va =>
    hu.run (s := { s with heap := h2, toks := tk2 }) r eo wd lv va fun vu h3 tk3 l3 pu wd lv va => hs.run (s := { s with heap := h3, toks := tk3 }) r eo wd lv va fun vk h4 tk4 l4 pk wd lv va => by
    have l5 := Le.push (X := X) h4 { cls := .type "slice", data := .fields #[vl, vu, vk] }
    have lall := (((l.trans l2).trans l3).trans l4).trans l5
    have rp := rp.le (((l2.trans l3).trans l4).trans l5)
    cases rp using Rep.casesList with
    | list a b c e f =>
      have il := IsList.of a b c
      obtain ⟨k1, k2, k3⟩ := new_keep (lv.le l5) { cls := .type "list", data := .seq (PySem.slicePick _ lo hi st) } rfl
      have hz' := f.length
      rw [Array.length_toList] at hz'
      obtain ⟨ops, hops⟩ : ∃ ops : Value → Value → List Value, ∀ o i, subscripted (.Slice lower upper step pp) false o i = operate (ops o i) (getItem o i) := by
        cases step
        · exact ⟨fun o i => [i, o], fun _ _ => rfl⟩
        · exact ⟨fun o i => [o, i], fun _ _ => rfl⟩
      refine tail_any (s := { s with heap := h4.push { cls := .type "slice", data := .fields #[vl, vu, vk] }, toks := tk4 }) (Heap.IsList.typeIs il) slot_list_getitem.lookup
        (wpAny_getItem_list_slice (s := { s with heap := h4.push { cls := .type "slice", data := .fields #[vl, vu, vk] }, toks := tk4 }) il (Heap.IsSliceOf.new ..) pl pu pk h0 ?_ (by rw [hz']; exact hz)) (hops _ _)
      exact po _ _ tk4 (lall.trans (.push _ _)) (.list k1 rfl rfl k2 ((f.slicePick lo hi st).le (.push _ _))) (fun _ => fresh_seq (fun o q => k3 o ⟨q.1, q.2.1, lall.keep _ _ q.1 q.2.1 q.2.2⟩) k1 rfl)))

/-! lists joined -/
theorem op_addLists {A : Around} {E : Value → Shared → Prop} {s : Shared} {X : Addr → Prop} {a b : Value} {ds es : List V} {Q : Value → Shared → Prop} (lv : Live K X s.heap) (ra : Rep s.heap X a (.list ds)) (rb : Rep s.heap X b (.list es)) (hz : ds.length + es.length ≤ sizeLine) (po : Post s X true (.list (ds ++ es)) Q) :
    wpAny (model p w) A (binaryOp .Add a b) Q E s := by
  cases ra using Rep.casesList with
  | list a1 a2 a3 a4 a5 =>
    cases rb using Rep.casesList with
    | list b1 b2 b3 b4 b5 =>
      rename_i oa va na _ ob vb nb
      obtain ⟨ca, da, ta, sa⟩ := oa
      obtain ⟨cb, db, tb, sb⟩ := ob
      simp only at a2 a3 b2 b3
      subst a2 a3 b2 b3
      have z1 := a5.length
      have z2 := b5.length
      rw [Array.length_toList] at z1 z2
      refine concat_meets ⟨_, a1, rfl⟩ ⟨_, b1, rfl⟩ noFill_list_add seq_list_add PySem.F.slot_list_add PySem.F.entry_list_add (PySem.F.args_list_add_2 _ _) (list_addW _ _ va vb na nb da db sa sb (by omega)) ⟨a1, b1, ?_⟩
      obtain ⟨k1, k2, k3⟩ := new_keep lv { cls := .type "list", data := .seq (va ++ vb) } rfl
      exact po _ _ s.toks (.push _ _) (.list k1 rfl rfl k2 (by rw [Array.toList_append]; exact (RepL.append (b5.le (.push _ _)) (a5.le (.push _ _))))) (fun _ => fresh_seq k3 k1 rfl)
theorem Evs.addLists {l rr : Expr} {pos : Pos} {ds es : List V} {fr : Bool} (h1 : Evs K p w n sc xs ρ l false (.list ds)) (h2 : Evs K p w n sc xs ρ rr false (.list es)) (hz : ds.length + es.length ≤ sizeLine) : Evs K p w n sc xs ρ (.BinOp l .Add rr pos) fr (.list (ds ++ es)) :=
  fun A E s X env Q r eo wd lv va po => wpAny_BinOp (h1.two r eo wd lv va fun v h' tk l1 rp wd lv va => h2.two (s := { s with heap := h', toks := tk }) r eo wd lv va fun v2 h'' tk2 l2 rp2 wd lv va =>
    op_addLists (s := { s with heap := h'', toks := tk2 }) lv (rp.le l2) rp2 hz fun v h3 tk3 l3 r3 f3 => po v h3 tk3 ((l1.trans l2).trans l3) r3 fun e => (f3 rfl).imp fun b o q => ⟨q.1, q.2.1, (l1.trans l2).keep _ _ q.1 q.2.1 q.2.2⟩)

/-! built-ins -/
theorem ctr_len {ds : List V} (hz : ds.length ≤ sizeLine) : Ctr K p w n (.builtin "len") [.list ds] false (.int ds.length) :=
  fun A E s X vs Q r wd lv rp po => by
    cases rp using RepL.casesCons with
    | cons a q =>
      cases q using RepL.casesNil
      cases a using Rep.casesList with
      | list a b c e f =>
        have hz' := f.length
        rw [Array.length_toList] at hz'
        rw [sizeLine_eq] at hz
        refine Calls.call_len_list (IsList.of a b c) (by omega) ?_
        rw [hz']
        exact po _ s.heap _ (.refl _) (.int _ _) ff
theorem ctr_max {a b : Int} : Ctr K p w n (.builtin "max") [.int a, .int b] false (.int (if b > a then b else a)) :=
  fun A E s X vs Q r wd lv rp po => by
    cases rp using RepL.casesCons with
    | cons a1 q =>
      cases q using RepL.casesCons with
      | cons b1 q =>
        cases q using RepL.casesNil; cases a1 using Rep.casesInt; cases b1 using Rep.casesInt
        refine max_two_ints r.hd fun h' tk k => ?_
        by_cases c : b > a
        · rw [if_pos c] at po ⊢; exact po _ h' tk (.of_keep k) (.int _ _) ff
        · rw [if_neg c] at po ⊢; exact po _ h' tk (.of_keep k) (.int _ _) ff
theorem ctr_min {a b : Int} : Ctr K p w n (.builtin "min") [.int a, .int b] false (.int (if b < a then b else a)) :=
  fun A E s X vs Q r wd lv rp po => by
    cases rp using RepL.casesCons with
    | cons a1 q =>
      cases q using RepL.casesCons with
      | cons b1 q =>
        cases q using RepL.casesNil; cases a1 using Rep.casesInt; cases b1 using Rep.casesInt
        refine min_two_ints r.hd fun h' tk k => ?_
        by_cases c : b < a
        · rw [if_pos c] at po ⊢; exact po _ h' tk (.of_keep k) (.int _ _) ff
        · rw [if_neg c] at po ⊢; exact po _ h' tk (.of_keep k) (.int _ _) ff
theorem ctr_int_int {a : Int} : Ctr K p w n (.type "int") [.int a] false (.int a) :=
  fun A E s X vs Q r wd lv rp po => by
    cases rp using RepL.casesCons with
    | cons a1 q => cases q using RepL.casesNil; cases a1 using Rep.casesInt; exact call_int_int (po _ s.heap s.toks (.refl _) (.int _ _) ff)
theorem ctr_int_bool {b : Bool} : Ctr K p w n (.type "int") [.bool b] false (.int (if b then 1 else 0)) :=
  fun A E s X vs Q r wd lv rp po => by
    cases rp using RepL.casesCons with
    | cons a1 q => cases q using RepL.casesNil; cases a1 using Rep.casesBool; exact call_int_bool (po _ s.heap _ (.refl _) (.int _ _) ff)
theorem ctr_range3 {a b c : Int} (hc : c ≠ 0) (hs : c.natAbs < 1073741824) : Ctr K p w n (.type "range") [.int a, .int b, .int c] false (.range a b c) :=
  fun A E s X vs Q r wd lv rp po => by
    cases rp using RepL.casesCons with
    | cons a1 q =>
      cases q using RepL.casesCons with
      | cons b1 q =>
        cases q using RepL.casesCons with
        | cons c1 q =>
          cases q using RepL.casesNil; cases a1 using Rep.casesInt; cases b1 using Rep.casesInt; cases c1 using Rep.casesInt
          obtain ⟨k1, k2, k3⟩ := new_keep lv { cls := .type "range", data := .fields #[.int a _, .int b _, .int c _] } rfl
          exact call_range_3 hc (po _ _ _ (.push _ _) (.range k1 k2) ff) (.inl (PyProof.noPylong_small hs))
theorem ctr_range1 {b : Int} : Ctr K p w n (.type "range") [.int b] false (.range 0 b 1) :=
  fun A E s X vs Q r wd lv rp po => by
    cases rp using RepL.casesCons with
    | cons b1 q =>
      cases q using RepL.casesNil; cases b1 using Rep.casesInt
      obtain ⟨k1, k2, k3⟩ := new_keep lv { cls := .type "range", data := .fields #[.int 0 _, .int b _, .int 1 _] } rfl
      exact call_range_1 (po _ _ _ (.push _ _) (.range k1 k2) ff)
end Mine

-- B5
namespace Mine
variable {K : Frag} {p : Program} {w : World} {n : Nat} {sc : Scope} {xs : List Str} {ρ : List (Option V)}

theorem RepL.of_get {h : Heap} {X : Addr → Prop} : ∀ (vs : List Value) (ds : List V), vs.length = ds.length → (∀ (j : Nat) (v : Value) (d : V), vs[j]? = some v → ds[j]? = some d → Rep h X v d) → RepL h X vs ds
  | [], [], _, _ => .nil
  | [], _ :: _, e, _ => by cases e
  | _ :: _, [], e, _ => by cases e
  | v :: vs, d :: ds, e, k => .cons (k 0 v d rfl rfl) (RepL.of_get vs ds (by simpa using e) fun j v d a b => k (j + 1) v d (by simpa using a) (by simpa using b))
theorem RepL.ints {h : Heap} {X : Addr → Prop} : ∀ {vs : List Value} {ns : List Int}, RepL h X vs (ns.map .int) → IntsAre vs ns
  | _, [], .nil => .nil
  | _, n :: ns, .cons a r => by
    cases a using Rep.casesInt
    exact .cons _ _ (RepL.ints r)

noncomputable def rInts (a c : Int) (n : Nat) : List Int := (List.range n).map fun (i : Nat) => a + (i : Int) * c

theorem ctr_list_range {a b c : Int} {m : Nat} (hs : Builtin.Range.small a b c = true) (hn : Builtin.Range.rangeSize a b c = m) (hz : m ≤ 2 ^ 24) : Ctr K p w n (.type "list") [.range a b c] true (.list ((rInts a c m).map .int)) :=
  fun A E s X vs Q r wd lv rp po => by
    cases rp using RepL.casesCons with
    | cons a1 q =>
      cases q using RepL.casesNil
      cases a1 using Rep.casesRange with
      | range i av =>
        refine call_list_range r.hd i hs hn hz fun h' tk acc' c' k hS it => ?_
        have nw := get?_size s.heap
        refine po _ h' tk (.of_keep k) (.list hS rfl rfl (lv.new nw) (RepL.of_get _ _ (by simp [rInts, it.1]) fun j v d e1 e2 => ?_)) (fun _ => fresh_seq (fun q z => by have := z.2.2; rw [nw] at this; exact nn this) hS rfl)
        obtain ⟨t, rfl⟩ := it.2 j v (by simpa using e1)
        simp only [List.getElem?_map, Option.map_eq_some_iff] at e2
        obtain ⟨x, e3, rfl⟩ := e2
        unfold rInts at e3
        rw [List.getElem?_map, Option.map_eq_some_iff] at e3
        obtain ⟨y, e4, rfl⟩ := e3
        obtain ⟨hj, e5⟩ := List.getElem?_eq_some_iff.mp e4
        rw [List.getElem_range] at e5
        subst e5
        exact .int _ _
theorem ctr_sum {ns : List Int} : Ctr K p w n (.builtin "sum") [.list (ns.map .int)] false (.int ns.sum) :=
  fun A E s X vs Q r wd lv rp po => by
    cases rp using RepL.casesCons with
    | cons a1 q =>
      cases q using RepL.casesNil
      cases a1 using Rep.casesList with
      | list a b c e f =>
        have hi := f.ints
        obtain ⟨xs, hx⟩ := hi.allInts.items
        have il := IsList.of a b c
        have hx' : _ = intItems xs := hx
        rw [Array.toArray_toList] at hx'
        rw [hx'] at il
        have hn : xs.toList.map (·.1) = ns := by rw [← nums_intItems, ← hx', hi.numsOf]
        refine sum_intListG r.hd il fun h' tk t' k => ?_
        rw [preSum_eq, List.take_of_length_le (by simp), hn]
        exact po _ h' tk (.of_keep k) (.int _ _) ff
theorem RepL.bools {h : Heap} {X : Addr → Prop} : ∀ {vs : List Value} {bs : List Bool}, RepL h X vs (bs.map .bool) → vs = bs.map .bool
  | _, [], .nil => rfl
  | _, n :: ns, .cons a r => by
    cases a using Rep.casesBool
    rw [RepL.bools r]; rfl
theorem all_range (bs : List Bool) : ((List.range bs.length).all fun i => bs.getD i true) = bs.all id := by
  induction bs with
  | nil => rfl
  | cons b bs ih => simp [List.range_succ_eq_map, List.all_map, Function.comp_def] at ih ⊢; rw [← ih]
theorem any_range (bs : List Bool) : ((List.range bs.length).any fun i => bs.getD i true) = bs.any id := by
  induction bs with
  | nil => rfl
  | cons b bs ih => simp [List.range_succ_eq_map, List.any_map, Function.comp_def] at ih ⊢; rw [← ih]
theorem ctr_all {bs : List Bool} : Ctr K p w n (.builtin "all") [.list (bs.map .bool)] false (.bool (bs.all id)) :=
  fun A E s X vs Q r wd lv rp po => by
    cases rp using RepL.casesCons with
    | cons a1 q =>
      cases q using RepL.casesNil
      cases a1 using Rep.casesList with
      | list a b c e f =>
        rename_i ad o va m
        have hv := f.bools
        have il := IsList.of a b c
        have hne : ad ≠ s.heap.objs.size := Nat.ne_of_lt (Heap.lt_size a)
        refine call_all_walk (wpAny_pyIter_list il ⟨_, _, _, _, _, _, fun i => bs.getD i true, rfl, Walks.list (by exact r.hd) _ ad hne va, ⟨⟨_, Heap.get?_push_size _ rfl, rfl, rfl⟩, il.push _⟩, ?_, fun h' tk k => ?_⟩)
        · intro i v s' Q' E' hp hq
          have e1 : (bs.map Value.bool)[i]? = some v := by rw [← hv]; simpa using hp
          rw [List.getElem?_map, Option.map_eq_some_iff] at e1
          obtain ⟨b', e2, rfl⟩ := e1
          refine wpAny_truthy_bool ?_
          have e3 : bs.getD i true = b' := by rw [List.getD_eq_getElem?_getD, e2]; rfl
          exact e3 ▸ hq
        · have hz : va.size = bs.length := by rw [← Array.length_toList, hv, List.length_map]
          rw [hz, all_range]
          exact po _ h' tk (.of_keep fun b o e => k b o (fun q => by
            rcases List.mem_cons.mp q with rfl | q
            · exact absurd (Heap.lt_size e) (Nat.lt_irrefl _)
            · cases q) (Heap.get?_push_of_some _ e)) (.bool _) ff
theorem ctr_any {bs : List Bool} : Ctr K p w n (.builtin "any") [.list (bs.map .bool)] false (.bool (bs.any id)) :=
  fun A E s X vs Q r wd lv rp po => by
    cases rp using RepL.casesCons with
    | cons a1 q =>
      cases q using RepL.casesNil
      cases a1 using Rep.casesList with
      | list a b c e f =>
        rename_i ad o va m
        have hv := f.bools
        have il := IsList.of a b c
        have hne : ad ≠ s.heap.objs.size := Nat.ne_of_lt (Heap.lt_size a)
        refine call_any_walk (wpAny_pyIter_list il ⟨_, _, _, _, _, _, fun i => bs.getD i true, rfl, Walks.list (by exact r.hd) _ ad hne va, ⟨⟨_, Heap.get?_push_size _ rfl, rfl, rfl⟩, il.push _⟩, ?_, fun h' tk k => ?_⟩)
        · intro i v s' Q' E' hp hq
          have e1 : (bs.map Value.bool)[i]? = some v := by rw [← hv]; simpa using hp
          rw [List.getElem?_map, Option.map_eq_some_iff] at e1
          obtain ⟨b', e2, rfl⟩ := e1
          refine wpAny_truthy_bool ?_
          have e3 : bs.getD i true = b' := by rw [List.getD_eq_getElem?_getD, e2]; rfl
          exact e3 ▸ hq
        · have hz : va.size = bs.length := by rw [← Array.length_toList, hv, List.length_map]
          rw [hz, any_range]
          exact po _ h' tk (.of_keep fun b o e => k b o (fun q => by
            rcases List.mem_cons.mp q with rfl | q
            · exact absurd (Heap.lt_size e) (Nat.lt_irrefl _)
            · cases q) (Heap.get?_push_of_some _ e)) (.bool _) ff

/-- is it a bool -/
noncomputable def V.isBool : V → Bool
  | .bool _ => true
  | _ => false
noncomputable def V.flat : V → Bool
  | .none | .bool _ | .int _ | .str _ => true
  | _ => false
theorem ctr_isBool {d : V} (hd : d.flat = true) : Ctr K p w n (.builtin "isinstance") [d, .ty "bool"] false (.bool d.isBool) :=
  fun A E s X vs Q r wd lv rp po => by
    cases rp using RepL.casesCons with
    | cons a1 q =>
      cases q using RepL.casesCons with
      | cons b1 q =>
        cases q using RepL.casesNil; cases b1 using Rep.casesTy
        cases a1 with
        | none => exact IsiPair.NoneType_bool (po _ s.heap _ (.refl _) (.bool _) ff)
        | bool b => exact IsiPair.bool_bool (po _ s.heap s.toks (.refl _) (.bool _) ff)
        | int i t => exact IsiPair.int_bool (po _ s.heap _ (.refl _) (.bool _) ff)
        | str x t => exact IsiPair.str_bool (po _ s.heap _ (.refl _) (.bool _) ff)
        | _ => exact ff hd

/-- the text of plain data -/
noncomputable def V.shown (d : V) : Str := d.py.shown
theorem ctr_repr {d : V} (hd : d.plain = true) (hs : d.py.showable = true) (hz : d.shown.length ≤ sizeLine) (hp : d.py.depth ≤ 50) (hn : d.py.hasDict = false) : Ctr K p w n (.builtin "repr") [d] false (.str d.shown) :=
  fun A E s X vs Q r wd lv rp po => by
    cases rp using RepL.casesCons with
    | cons a1 q =>
      cases q using RepL.casesNil
      obtain ⟨as, rd⟩ := a1.reads hd
      have hu : A.units + (d.py.depth + 1) < cLine := by
        have := r.un
        have q : cLine = 9900 := rfl
        omega
      have fin : ∀ (h' : Heap) (u : Tok) (tk : Nat), (∀ b o, s.heap.get? b = some o → h'.get? b = some o) → Q (.str d.py.shown u) { s with heap := h', toks := tk } := fun h' u tk k => po _ h' tk (.of_keep k) (.str _ _) ff
      cases a1 with
      | none => exact P.repr_of_none (fin _ _ _ fun _ _ e => e)
      | bool b => exact P.repr_of_bool (fin _ _ _ fun _ _ e => e)
      | int i t => exact P.repr_of_int (by simpa [V.py, PyData.showable] using hs) (fin _ _ _ fun _ _ e => e)
      | str x t => exact P.repr_of_str (fin _ _ _ fun _ _ e => e) hz
      | tuple a b c e f => exact repr_of_reads' rd hs (fun e => by rw [hn] at e; exact ff e) r.gs hu (fun _ _ e => e) fin hz
      | list a b c e f => exact repr_of_reads' rd hs (fun e => by rw [hn] at e; exact ff e) r.gs hu (fun _ _ e => e) fin hz
      | _ => exact ff hd
end Mine

-- B6
namespace Mine
variable {K : Frag} {p : Program} {w : World} {n : Nat} {sc : Scope} {cm : Bool} {KP : Addr → Obj → Prop} {Y : Addr → Prop} {env : Env}

/-- what is known of a slot: nothing, or (is it ours alone?, the datum) -/
noncomputable abbrev Ent := Option (Bool × V)
noncomputable def shw (ρ : List Ent) : List (Option V) := ρ.map fun e => e.map (·.2)
noncomputable def hid (ρ : List Ent) : List (Option V) := ρ.map fun e => e.bind fun q => if q.1 then none else some q.2
theorem hid_get {ρ : List Ent} {i : Nat} {d : V} (h : (hid ρ)[i]? = some (some d)) : ρ[i]? = some (some (false, d)) := by
  unfold hid at h
  rw [List.getElem?_map, Option.map_eq_some_iff] at h
  obtain ⟨e, h1, h2⟩ := h
  cases e with
  | none => cases h2
  | some q =>
    obtain ⟨b, d'⟩ := q
    cases b with
    | true => cases h2
    | false => cases h2; exact h1
theorem shw_get {ρ : List Ent} {i : Nat} {d : V} (h : (shw ρ)[i]? = some (some d)) : ∃ b, ρ[i]? = some (some (b, d)) := by
  unfold shw at h
  rw [List.getElem?_map, Option.map_eq_some_iff] at h
  obtain ⟨e, h1, h2⟩ := h
  cases e with
  | none => cases h2
  | some q => obtain ⟨b, d'⟩ := q; cases h2; exact ⟨b, h1⟩

inductive Slot where
  | nm (x : Str)
  | val (v : Value)

/-- the slot holds this very value -/
noncomputable def Holds (sc : Scope) (env : Env) (h : Heap) : Slot → Value → Prop
  | .nm x, v => (sc.names.lookup x = some .local ∧ ∃ m, h.Ns env.locals m ∧ m x = some v) ∨ ((sc.names.lookup x = some .cell ∨ sc.names.lookup x = some .free) ∧ ∃ c, env.cells.lookup x = some c ∧ c ≠ 365 ∧ c ≠ 360 ∧ h.IsCell c (some v))
  | .val u, v => v = u

noncomputable def Fa (cm : Bool) (env : Env) (a : Addr) : Prop := a = env.locals ∨ (cm = true ∧ ∃ x, env.cells.lookup x = some a)
noncomputable def OwnS (ρ : List Ent) (oa : Nat → Addr) (a : Addr) : Prop := ∃ (i : Nat) (d : V), ρ[i]? = some (some (true, d)) ∧ oa i = a
noncomputable def Xs (cm : Bool) (Y : Addr → Prop) (env : Env) (ρ : List Ent) (oa : Nat → Addr) (a : Addr) : Prop := Y a ∨ Fa cm env a ∨ OwnS ρ oa a

/-- an object of ours alone: its address, its parts that no forbidden address bears -/
inductive OwnIs (h : Heap) (X : Addr → Prop) : Value → Addr → V → Prop
  | list {a : Addr} {vs : Array Value} {n : Nat} {ds : List V} : h.get? a = some { cls := .type "list", data := .seq vs n } → RepL h X vs.toList ds → OwnIs h X (.ref a) a (.list ds)
  | inst {id : Option (Addr × Addr)} {b C a : Addr} {es : List DictEntry} {n : Nat} {fs : List (Str × V)} : h.get? b = some (instObj C a) → Av X b → h.get? a = some (dictOf es n) → RepF h X es fs → (∀ q, id = some q → q = (b, a)) → OwnIs h X (.ref b) a (.inst id C fs)
  | idict {a : Addr} {o : Obj} {ks : List Int} : h.get? a = some o → IntDict o ks → (a == sysModules) = false → OwnIs h X (.ref a) a (.idict ks)
theorem IntDict.cls {o : Obj} {ks : List Int} (h : IntDict o ks) : o.cls = .type "dict" ∧ ∃ es ep, o.data = .dict es ep := by
  exact h.1
theorem OwnIs.imp {h h' : Heap} {X Z : Addr → Prop} {v : Value} {a : Addr} {d : V} (o : OwnIs h X v a d) (ka : ∀ q, h.get? a = some q → h'.get? a = some q) (k : ∀ b o, h.get? b = some o → Av X b → h'.get? b = some o ∧ Av Z b) : OwnIs h' Z v a d := by
  cases o with
  | list a1 r => exact .list (ka _ a1) (r.imp k)
  | inst b1 b2 a1 r q => exact .inst (k _ _ b1 b2).1 (k _ _ b1 b2).2 (ka _ a1) (r.imp k) q
  | idict a1 a2 a3 => exact .idict (ka _ a1) a2 a3
theorem OwnIs.alive {h : Heap} {X : Addr → Prop} {v : Value} {a : Addr} {d : V} (o : OwnIs h X v a d) : ∃ q, h.get? a = some q ∧ q.cls ≠ .type "tuple" := by
  cases o with
  | list a1 r => exact ⟨_, a1, by simp⟩
  | inst b1 b2 a1 r _ => exact ⟨_, a1, by simp⟩
  | idict a1 a2 a3 => exact ⟨_, a1, by rw [a2.cls.1]; simp⟩
theorem OwnIs.notCode {h : Heap} {X : Addr → Prop} {v : Value} {a : Addr} {d : V} (o : OwnIs h X v a d) : ∀ q vs, h.get? a = some q → q.data ≠ .fields vs := fun q vs e z => by
  cases o with
  | list a1 r => rw [a1] at e; cases e; cases z
  | inst b1 b2 a1 r _ => rw [a1] at e; cases e; cases z
  | idict a1 a2 a3 => rw [a1] at e; cases e; obtain ⟨_, _, _, d⟩ := a2.cls; rw [d] at z; cases z
theorem OwnIs.rep {h : Heap} {X Z : Addr → Prop} {v : Value} {a : Addr} {d : V} (o : OwnIs h X v a d) (s : ∀ b, Z b → X b) (av : Av Z a) : Rep h Z v d := by
  cases o with
  | list a1 r => exact .list a1 rfl rfl av (r.sub s)
  | inst b1 b2 a1 r q => exact .inst b1 a1 (b2.mono s) av (r.imp fun _ _ e q => ⟨e, q.mono s⟩) q
  | idict a1 a2 a3 => exact .idict a1 a2 a3 av

structure Stt (K : Frag) (sc : Scope) (cm : Bool) (KP : Addr → Obj → Prop) (Y : Addr → Prop) (env : Env) (sl : List Slot) (ρ : List Ent) (oa : Nat → Addr) (h : Heap) : Prop where
  keep : ∀ b o, KP b o → h.get? b = some o
  wd : ∀ h', (∀ b o, KP b o → h'.get? b = some o) → Wd K h'
  live : LiveB K Y h
  fa : ∀ a, Fa cm env a → (h.get? a).isSome ∧ ¬ Y a ∧ a ≠ 365 ∧ a ≠ 360 ∧ K.lookup a = none ∧ ∀ o, ¬ KP a o
  ns : ∃ m, h.Ns env.locals m
  fro : ∀ (i : Nat) (x : Slot) (d : V), sl[i]? = some x → ρ[i]? = some (some (false, d)) → ∃ v, Holds sc env h x v ∧ Rep h (Xs cm Y env ρ oa) v d
  own : ∀ (i : Nat) (x : Slot) (d : V), sl[i]? = some x → ρ[i]? = some (some (true, d)) → ∃ v, Holds sc env h x v ∧ OwnIs h (Xs cm Y env ρ oa) v (oa i) d
  dom : ρ.length = sl.length
  nd : ∀ (i j : Nat) (x : Str), sl[i]? = some (.nm x) → sl[j]? = some (.nm x) → i = j
  cex : ∀ x, sc.names.lookup x = some .cell → ∃ c v₀, env.cells.lookup x = some c ∧ c ≠ 365 ∧ c ≠ 360 ∧ h.IsCell c v₀
  cel : (∀ y c, env.cells.lookup y = some c → c ≠ env.locals) ∧ ∀ y z c, env.cells.lookup y = some c → env.cells.lookup z = some c → y = z
  off : ∀ (i : Nat) (d : V), ρ[i]? = some (some (true, d)) → ¬ Fa cm env (oa i) ∧ ¬ Y (oa i) ∧ oa i ≠ 365 ∧ oa i ≠ 360 ∧ K.lookup (oa i) = none ∧ ∀ o, ¬ KP (oa i) o
  inj : ∀ (i j : Nat) (d e : V), ρ[i]? = some (some (true, d)) → ρ[j]? = some (some (true, e)) → oa i = oa j → i = j
  tabs : Tabs (Xs cm Y env ρ oa) h
  cav : codeOf sc ≠ none → ∀ y c, env.cells.lookup y = some c → (h.get? c).isSome ∧ ¬ Xs cm Y env ρ oa c

section
variable {sl : List Slot} {ρ : List Ent} {oa : Nat → Addr} {h h' : Heap}
theorem Stt.world (S : Stt K sc cm KP Y env sl ρ oa h) : Wd K h := S.wd h S.keep
theorem Stt.slot {S : Stt K sc cm KP Y env sl ρ oa h} {i : Nat} {e : Ent} (q : ρ[i]? = some e) : ∃ x, sl[i]? = some x := by
  have h1 : i < ρ.length := (List.getElem?_eq_some_iff.mp q).1
  exact ⟨_, List.getElem?_eq_getElem (S.dom ▸ h1)⟩
theorem Stt.liveX (S : Stt K sc cm KP Y env sl ρ oa h) : Live K (Xs cm Y env ρ oa) h := by
  refine ⟨⟨S.live.1, S.live.2.1, fun a q => ?_⟩, S.tabs⟩
  rcases q with q | q | ⟨i, d, e, rfl⟩
  · exact S.live.2.2 a q
  · exact ⟨(S.fa a q).1, (S.fa a q).2.2.2.2.1⟩
  · obtain ⟨x, hx⟩ := Stt.slot (S := S) e
    obtain ⟨v, _, o⟩ := S.own i x d hx e
    obtain ⟨q, hq, _⟩ := o.alive
    exact ⟨by rw [hq]; rfl, (S.off i d e).2.2.2.2.1⟩
theorem Stt.liveF (S : Stt K sc cm KP Y env sl ρ oa h) : Live K (fun a => Y a ∨ Fa cm env a) h :=
  ⟨⟨S.live.1, S.live.2.1, fun a q => S.liveX.1.2.2 a (q.elim .inl fun q => .inr (.inl q))⟩, S.tabs.mono fun a q => q.elim .inl fun q => .inr (.inl q)⟩
theorem holds_var {x : Str} {v : Value} {X : Addr → Prop} {d : V} (hh : Holds sc env h (.nm x) v) (r : Rep h X v d) (cv : codeOf sc ≠ none → ∀ y c, env.cells.lookup y = some c → ¬ X c) : VarAt sc env h X x d := by
  rcases hh with ⟨a, m, n, e⟩ | ⟨a, c, e, n1, n2, i⟩
  · exact .inl ⟨a, m, v, n, e, r⟩
  · exact .inr ⟨a, c, v, e, n1, n2, i, r, fun q => cv q x c e⟩
/-- the names, what is ours alone left out -/
theorem Stt.hidden {xs : List Str} (S : Stt K sc cm KP Y env sl ρ oa h) (hx : ∀ (i : Nat) (x : Str), xs[i]? = some x → sl[i]? = some (.nm x)) : Vars sc env h (Xs cm Y env ρ oa) xs (hid ρ) := fun i x d a b => by
  obtain ⟨v, hh, r⟩ := S.fro i _ d (hx i x a) (hid_get b)
  exact holds_var hh r fun q y c e => (S.cav q y c e).2
theorem Stt.avOwn (S : Stt K sc cm KP Y env sl ρ oa h) {i : Nat} {d : V} (e : ρ[i]? = some (some (true, d))) : Av (fun a => Y a ∨ Fa cm env a) (oa i) := by
  obtain ⟨o1, o2, o3, o4, _⟩ := S.off i d e
  exact ⟨fun q => q.elim o2 o1, o3, o4⟩
/-- all names, for a reading -/
theorem Stt.shown {xs : List Str} (S : Stt K sc cm KP Y env sl ρ oa h) (hx : ∀ (i : Nat) (x : Str), xs[i]? = some x → sl[i]? = some (.nm x)) : Vars sc env h (fun a => Y a ∨ Fa cm env a) xs (shw ρ) := fun i x d a b => by
  have sub : ∀ a, (Y a ∨ Fa cm env a) → Xs cm Y env ρ oa a := fun a q => q.elim .inl fun q => .inr (.inl q)
  obtain ⟨o, e⟩ := shw_get b
  cases o with
  | false =>
    obtain ⟨v, hh, r⟩ := S.fro i _ d (hx i x a) e
    exact holds_var hh (r.sub sub) fun q y c e z => (S.cav q y c e).2 (sub _ z)
  | true =>
    obtain ⟨v, hh, r⟩ := S.own i _ d (hx i x a) e
    exact holds_var hh (r.rep sub (S.avOwn e)) fun q y c e z => (S.cav q y c e).2 (sub _ z)

theorem Holds.keep {Z : Addr → Prop} {x : Slot} {v : Value} (eo : EnvOk sc env) (hh : Holds sc env h x v) (l : Le Z h h') : Holds sc env h' x v := by
  cases x with
  | val u => exact hh
  | nm x =>
    rcases hh with ⟨a, m, n, e⟩ | ⟨a, c, e, n1, n2, ⟨o, i1, i2⟩⟩
    · exact .inl ⟨a, m, Ns.le n fun o e => l.keep _ o eo.l1 eo.l2 e, e⟩
    · exact .inr ⟨a, c, e, n1, n2, ⟨o, l.keep _ o n1 n2 i1, i2⟩⟩
/-- the heap grows; of the place L only the names are known to stay -/
structure LeL (L : Addr) (X : Addr → Prop) (h h' : Heap) : Prop where
  keep : ∀ b o, b ≠ L → b ≠ 365 → b ≠ 360 → h.get? b = some o → h'.get? b = some o
  live : ∀ b, (h.get? b).isSome → (h'.get? b).isSome
  tab : Tabs X h → Tabs X h'
  ns : ∀ m, h.Ns L m → h'.Ns L m
theorem Le.toL {X : Addr → Prop} {L : Addr} (l : Le X h h') (n1 : L ≠ 365) (n2 : L ≠ 360) : LeL L X h h' := ⟨fun b o _ => l.keep b o, l.live, l.tab, fun _ n => Ns.le n fun o e => l.keep _ o n1 n2 e⟩
theorem LeL.trans {X : Addr → Prop} {L : Addr} {a b c : Heap} (x : LeL L X a b) (y : LeL L X b c) : LeL L X a c := ⟨fun p o n m k e => y.keep p o n m k (x.keep p o n m k e), fun p e => y.live p (x.live p e), fun t => y.tab (x.tab t), fun m n => y.ns m (x.ns m n)⟩
theorem Rep.leL {X Z : Addr → Prop} {L : Addr} (l : LeL L Z h h') (hL : X L) {v : Value} {d : V} (r : Rep h X v d) : Rep h' X v d := r.imp fun b o e a => ⟨l.keep b o (fun q => a.1 (q ▸ hL)) a.2.1 a.2.2 e, a⟩
theorem Holds.keepL {Z : Addr → Prop} {x : Slot} {v : Value} (cel : ∀ y c, env.cells.lookup y = some c → c ≠ env.locals) (hh : Holds sc env h x v) (l : LeL env.locals Z h h') : Holds sc env h' x v := by
  cases x with
  | val u => exact hh
  | nm x =>
    rcases hh with ⟨a, m, n, e⟩ | ⟨a, c, e, n1, n2, ⟨o, i1, i2⟩⟩
    · exact .inl ⟨a, m, l.ns m n, e⟩
    · exact .inr ⟨a, c, e, n1, n2, ⟨o, l.keep _ o (cel x c e) n1 n2 i1, i2⟩⟩
theorem Stt.xl : Xs cm Y env ρ oa env.locals := .inr (.inl (.inl rfl))
theorem Stt.leL (S : Stt K sc cm KP Y env sl ρ oa h) (kp : ∀ b o, KP b o → b ≠ 365 ∧ b ≠ 360) (l : LeL env.locals (Xs cm Y env ρ oa) h h') : Stt K sc cm KP Y env sl ρ oa h' where
  keep := fun b o q => l.keep b o (fun z => (S.fa _ (.inl rfl)).2.2.2.2.2 o (z ▸ q)) (kp b o q).1 (kp b o q).2 (S.keep b o q)
  wd := S.wd
  live := ⟨l.live _ S.live.1, l.live _ S.live.2.1, fun a x => ⟨l.live _ (S.live.2.2 a x).1, (S.live.2.2 a x).2⟩⟩
  fa := fun a q => ⟨l.live a (S.fa a q).1, (S.fa a q).2⟩
  ns := let ⟨m, q⟩ := S.ns; ⟨m, l.ns m q⟩
  fro := fun i x d a b => let ⟨v, q, r⟩ := S.fro i x d a b; ⟨v, q.keepL S.cel.1 l, r.leL l Stt.xl⟩
  own := fun i x d a b => by
    obtain ⟨v, q, r⟩ := S.own i x d a b
    obtain ⟨o1, _, o3, o4, _⟩ := S.off i d b
    exact ⟨v, q.keepL S.cel.1 l, r.imp (fun q e => l.keep _ q (fun z => o1 (.inl z)) o3 o4 e) fun b o e av => ⟨l.keep b o (fun z => av.1 (z ▸ Stt.xl)) av.2.1 av.2.2 e, av⟩⟩
  dom := S.dom
  nd := S.nd
  cex := fun x q => let ⟨c, v₀, e, n1, n2, ⟨o, i1, i2⟩⟩ := S.cex x q; ⟨c, v₀, e, n1, n2, ⟨o, l.keep _ o (S.cel.1 x c e) n1 n2 i1, i2⟩⟩
  cel := S.cel
  off := S.off
  inj := S.inj
  tabs := l.tab S.tabs
  cav := fun q y c e => ⟨l.live c (S.cav q y c e).1, (S.cav q y c e).2⟩
theorem Stt.le (S : Stt K sc cm KP Y env sl ρ oa h) (kp : ∀ b o, KP b o → b ≠ 365 ∧ b ≠ 360) (eo : EnvOk sc env) (l : Le (Xs cm Y env ρ oa) h h') : Stt K sc cm KP Y env sl ρ oa h' := S.leL kp (l.toL eo.l1 eo.l2)
end

theorem Stt.up {sl : List Slot} {ρ : List Ent} {oa : Nat → Addr} {h h' : Heap} (S : Stt K sc cm KP Y env sl ρ oa h) (l : Le (fun a => Y a ∨ Fa cm env a) h h') : Le (Xs cm Y env ρ oa) h h' :=
  ⟨l.keep, l.live, fun T => (l.tab (T.mono fun a q => q.elim .inl fun q => .inr (.inl q))).but fun a z => by
    rcases z with z | z | ⟨i, d, e, rfl⟩
    · exact .inl (.inl z)
    · exact .inl (.inr z)
    · obtain ⟨x, hx⟩ := Stt.slot (S := S) e
      obtain ⟨v, _, o⟩ := S.own i x d hx e
      obtain ⟨_, _, o3, o4, _⟩ := S.off i d e
      obtain ⟨q, hq, _⟩ := o.alive
      refine .inr fun o' vs e' => ?_
      rw [l.keep _ q o3 o4 hq] at e'
      cases e'
      exact o.notCode _ _ hq⟩
section
variable {sl : List Slot} {ρ : List Ent} {oa : Nat → Addr} {h h' : Heap} {X : Addr → Prop} {a : Addr}
theorem touch_rep (sb : Heap.SameBut a h h') (ha : X a) {v : Value} {d : V} (r : Rep h X v d) : Rep h' X v d :=
  r.imp fun b o e av => ⟨(sb.2 b fun q => av.1 (q ▸ ha)).trans e, av⟩
theorem touch_tabs (sb : Heap.SameBut a h h') (ha : X a) (n5 : a ≠ 365) (n0 : a ≠ 360) (T : Tabs X h) : Tabs X h' :=
  T.imp (fun o e => (sb.2 365 (Ne.symm n5)).trans e) (fun o e => (sb.2 360 (Ne.symm n0)).trans e) fun b o _ e _ av => ⟨(sb.2 b fun q => av.1 (q ▸ ha)).trans e, av⟩
theorem touch_own (sb : Heap.SameBut a h h') (ha : X a) {v : Value} {b : Addr} {d : V} (hb : b ≠ a) (r : OwnIs h X v b d) : OwnIs h' X v b d :=
  r.imp (fun q e => (sb.2 b hb).trans e) fun b o e av => ⟨(sb.2 b fun q => av.1 (q ▸ ha)).trans e, av⟩
/-- a temporary: a value that we hold, with its datum -/
theorem Stt.addFro (S : Stt K sc cm KP Y env sl ρ oa h) {v : Value} {d : V} (r : Rep h (Xs cm Y env ρ oa) v d) : Stt K sc cm KP Y env (sl ++ [.val v]) (ρ ++ [some (false, d)]) oa h := by
  have hX : ∀ a, Xs cm Y env (ρ ++ [some (false, d)]) oa a → Xs cm Y env ρ oa a := by
    intro a q
    rcases q with q | q | ⟨i, d', e, rfl⟩
    · exact .inl q
    · exact .inr (.inl q)
    · refine .inr (.inr ⟨i, d', ?_, rfl⟩)
      rw [List.getElem?_append] at e
      split at e
      · exact e
      · rw [List.getElem?_singleton] at e
        split at e <;> cases e
  have split : ∀ (i : Nat) (x : Slot) (e : Ent), (sl ++ [.val v])[i]? = some x → (ρ ++ [some (false, d)])[i]? = some e → (sl[i]? = some x ∧ ρ[i]? = some e) ∨ (x = .val v ∧ e = some (false, d)) := by
    intro i x e q1 q2
    rw [List.getElem?_append] at q1 q2
    rw [S.dom] at q2
    split at q1
    · rename_i hl
      rw [if_pos hl] at q2
      exact .inl ⟨q1, q2⟩
    · rename_i hl
      rw [if_neg hl] at q2
      rw [List.getElem?_singleton] at q1 q2
      split at q1
      · rename_i hz
        rw [if_pos hz] at q2
        cases q1; cases q2
        exact .inr ⟨rfl, rfl⟩
      · exact nn q1
  refine { S with fro := ?_, own := ?_, dom := ?_, off := ?_, inj := ?_, nd := ?_, tabs := S.tabs.mono hX, cav := fun q y c e => ⟨(S.cav q y c e).1, fun z => (S.cav q y c e).2 (hX _ z)⟩ }
  · intro i x d' q1 q2
    rcases split i x _ q1 q2 with ⟨a, b⟩ | ⟨rfl, b⟩
    · obtain ⟨u, hh, r⟩ := S.fro i x d' a b
      exact ⟨u, hh, r.sub hX⟩
    · cases b
      exact ⟨v, rfl, r.sub hX⟩
  · intro i x d' q1 q2
    rcases split i x _ q1 q2 with ⟨a, b⟩ | ⟨rfl, b⟩
    · obtain ⟨u, hh, r⟩ := S.own i x d' a b
      exact ⟨u, hh, r.imp (fun _ e => e) fun _ _ e av => ⟨e, av.mono hX⟩⟩
    · cases b
  · simp [S.dom]
  · intro i j x q1 q2
    have f : ∀ i : Nat, (sl ++ [Slot.val v])[i]? = some (.nm x) → sl[i]? = some (.nm x) := by
      intro i q
      rw [List.getElem?_append] at q
      split at q
      · exact q
      · rw [List.getElem?_singleton] at q
        split at q <;> cases q
    exact S.nd i j x (f i q1) (f j q2)
  · intro i d' q
    have : ρ[i]? = some (some (true, d')) := by
      rw [List.getElem?_append] at q
      split at q
      · exact q
      · rw [List.getElem?_singleton] at q
        split at q <;> cases q
    exact S.off i d' this
  · intro i j d' e' q1 q2 q3
    have f : ∀ (i : Nat) (d' : V), (ρ ++ [some (false, d)])[i]? = some (some (true, d')) → ρ[i]? = some (some (true, d')) := by
      intro i d' q
      rw [List.getElem?_append] at q
      split at q
      · exact q
      · rw [List.getElem?_singleton] at q
        split at q <;> cases q
    exact S.inj i j d' e' (f i d' q1) (f j e' q2) q3
theorem Stt.addOwn (S : Stt K sc cm KP Y env sl ρ oa h) (kp : ∀ b o, KP b o → b ≠ 365 ∧ b ≠ 360) (eo : EnvOk sc env) (l : Le (Xs cm Y env ρ oa) h h') (hn : h.get? a = none) {v : Value} {d : V} (r : OwnIs h' (fun b => Xs cm Y env ρ oa b ∨ b = a) v a d) :
    Stt K sc cm KP Y env (sl ++ [.val v]) (ρ ++ [some (true, d)]) (fun k => if k = ρ.length then a else oa k) h' := by
  have S' := S.le kp eo l
  have hX : ∀ b, Xs cm Y env (ρ ++ [some (true, d)]) (fun k => if k = ρ.length then a else oa k) b → Xs cm Y env ρ oa b ∨ b = a := by
    intro b q
    rcases q with q | q | ⟨i, d', e, rfl⟩
    · exact .inl (.inl q)
    · exact .inl (.inr (.inl q))
    · by_cases hi : i = ρ.length
      · exact .inr (if_pos hi)
      · refine .inl (.inr (.inr ⟨i, d', ?_, (if_neg hi).symm⟩))
        have hlt : i < (ρ ++ [some (true, d)]).length := (List.getElem?_eq_some_iff.mp e).1
        rw [List.length_append, List.length_singleton] at hlt
        rw [List.getElem?_append_left (by omega)] at e
        exact e
  have fresh : ∀ {v : Value} {d : V}, Rep h (Xs cm Y env ρ oa) v d → Rep h' (fun b => Xs cm Y env ρ oa b ∨ b = a) v d := fun r => (r.fresh (Z := fun b => b = a) (fun b e => e ▸ hn)).leZ l
  have split : ∀ (i : Nat) (x : Slot) (e : Ent), (sl ++ [.val v])[i]? = some x → (ρ ++ [some (true, d)])[i]? = some e → (sl[i]? = some x ∧ ρ[i]? = some e ∧ i ≠ ρ.length) ∨ (x = .val v ∧ e = some (true, d) ∧ i = ρ.length) := by
    intro i x e q1 q2
    by_cases hi : i = ρ.length
    · subst hi
      rw [List.getElem?_append_right (Nat.le_refl _)] at q2
      rw [S.dom, List.getElem?_append_right (Nat.le_refl _)] at q1
      simp at q1 q2
      exact .inr ⟨q1.symm, q2.symm, rfl⟩
    · have hlt : i < (ρ ++ [some (true, d)]).length := (List.getElem?_eq_some_iff.mp q2).1
      rw [List.length_append, List.length_singleton] at hlt
      rw [List.getElem?_append_left (by omega)] at q2
      rw [List.getElem?_append_left (by rw [← S.dom]; omega)] at q1
      exact .inl ⟨q1, q2, hi⟩
  have spl2 : ∀ (i : Nat) (e : Ent), (ρ ++ [some (true, d)])[i]? = some e → (ρ[i]? = some e ∧ i ≠ ρ.length) ∨ (e = some (true, d) ∧ i = ρ.length) := by
    intro i e q2
    by_cases hi : i = ρ.length
    · subst hi
      rw [List.getElem?_append_right (Nat.le_refl _)] at q2
      simp at q2
      exact .inr ⟨q2.symm, rfl⟩
    · have hlt : i < (ρ ++ [some (true, d)]).length := (List.getElem?_eq_some_iff.mp q2).1
      rw [List.length_append, List.length_singleton] at hlt
      rw [List.getElem?_append_left (by omega)] at q2
      exact .inl ⟨q2, hi⟩
  have av : Av (Xs cm Y env ρ oa) a := S.liveX.new hn
  have ne : ∀ i d, ρ[i]? = some (some (true, d)) → oa i ≠ a := fun i d e q => av.1 (.inr (.inr ⟨i, d, e, q⟩))
  have cv : codeOf sc ≠ none → ∀ y c, env.cells.lookup y = some c → (h'.get? c).isSome ∧ ¬ Xs cm Y env (ρ ++ [some (true, d)]) (fun k => if k = ρ.length then a else oa k) c := fun q y c e => ⟨l.live c (S.cav q y c e).1, fun z => (hX c z).elim (S.cav q y c e).2 fun z => (by have := (S.cav q y c e).1; rw [z, hn] at this; exact ff this)⟩
  have tb := (l.tab S.tabs).but fun b z => by
    rcases hX b z with q | q
    · exact .inl q
    · subst q; exact .inr r.notCode
  refine { S' with fro := ?_, own := ?_, dom := ?_, off := ?_, inj := ?_, nd := ?_, tabs := tb, cav := cv }
  · intro i x d' q1 q2
    rcases split i x _ q1 q2 with ⟨a1, b1, c1⟩ | ⟨rfl, b1, c1⟩
    · obtain ⟨u, hh, r⟩ := S.fro i x d' a1 b1
      exact ⟨u, hh.keep eo l, (fresh r).sub hX⟩
    · cases b1
  · intro i x d' q1 q2
    rcases split i x _ q1 q2 with ⟨a1, b1, c1⟩ | ⟨rfl, b1, c1⟩
    · obtain ⟨u, hh, r⟩ := S.own i x d' a1 b1
      obtain ⟨_, _, o3, o4, _⟩ := S.off i d' b1
      refine ⟨u, hh.keep eo l, ?_⟩
      rw [if_neg c1]
      exact r.imp (fun q e => l.keep _ q o3 o4 e) fun b o e av => ⟨l.keep b o av.2.1 av.2.2 e, ⟨fun z => (hX b z).elim av.1 (fun z => by rw [z, hn] at e; exact nn e), av.2⟩⟩
    · cases b1
      refine ⟨v, rfl, ?_⟩
      rw [if_pos c1]
      exact r.imp (fun _ e => e) fun _ _ e av => ⟨e, av.mono hX⟩
  · simp [S.dom]
  · intro i j x q1 q2
    have f : ∀ i : Nat, (sl ++ [Slot.val v])[i]? = some (.nm x) → sl[i]? = some (.nm x) := by
      intro i q
      rw [List.getElem?_append] at q
      split at q
      · exact q
      · rw [List.getElem?_singleton] at q
        split at q <;> cases q
    exact S.nd i j x (f i q1) (f j q2)
  · intro i d' q
    rcases spl2 i _ q with ⟨q, hi⟩ | ⟨q, hi⟩
    · rw [if_neg hi]; exact S.off i d' q
    · rw [if_pos hi]
      refine ⟨fun z => av.1 (.inr (.inl z)), fun z => av.1 (.inl z), av.2.1, av.2.2, ?_, fun o z => by have := S.keep a o z; rw [hn] at this; exact nn this⟩
      cases q1 : K.lookup a with
      | none => rfl
      | some o => have := S.world.k a o q1; rw [hn] at this; exact nn this
  · intro i j d' e' q1 q2 q3
    rcases spl2 i _ q1 with ⟨q1, hi⟩ | ⟨q1, hi⟩ <;> rcases spl2 j _ q2 with ⟨q2, hj⟩ | ⟨q2, hj⟩
    · rw [if_neg hi, if_neg hj] at q3; exact S.inj i j d' e' q1 q2 q3
    · rw [if_neg hi, if_pos hj] at q3; exact absurd q3 (ne i d' q1)
    · rw [if_pos hi, if_neg hj] at q3; exact absurd q3.symm (ne j e' q2)
    · exact hi.trans hj.symm

theorem Ns.det {h : Heap} {a : Addr} {m m' : Str → Option Value} (n : h.Ns a m) (n' : h.Ns a m') (x : Str) : m x = m' x := by
  obtain ⟨o, es, ep, e1, e2, _, e3⟩ := n
  obtain ⟨o', es', ep', f1, f2, _, f3⟩ := n'
  rw [e1] at f1; cases f1
  rw [e2] at f2; cases f2
  rw [← e3, ← f3]
theorem move_get {ρ : List Ent} {i j : Nat} {e : Bool × V} (hij : i ≠ j) {k : Nat} {q : Bool × V} (h : ((ρ.set i (some e)).set j none)[k]? = some (some q)) : (k = i ∧ q = e) ∨ (k ≠ i ∧ k ≠ j ∧ ρ[k]? = some (some q)) := by
  rw [List.getElem?_set] at h
  split at h
  · split at h <;> cases h
  · rename_i hj
    rw [List.getElem?_set] at h
    split at h
    · rename_i hi
      split at h
      · cases h; exact .inl ⟨hi.symm, rfl⟩
      · exact nn h
    · rename_i hi
      exact .inr ⟨Ne.symm hi, Ne.symm hj, h⟩
theorem Stt.move (S : Stt K sc cm KP Y env sl ρ oa h) {i j : Nat} {x : Str} {v : Value} {e : Bool × V} (hi : sl[i]? = some (.nm x)) (hj : sl[j]? = some (.val v)) (he : ρ[j]? = some (some e))
    {t : Addr} (ft : Fa cm env t) (sb : Heap.SameBut t h h') (al : (h'.get? t).isSome) (hn : Holds sc env h' (.nm x) v) (hk : ∀ y u, y ≠ x → Holds sc env h (.nm y) u → Holds sc env h' (.nm y) u) (ns : ∃ m, h'.Ns env.locals m) (hc : ∀ x, sc.names.lookup x = some .cell → ∃ c v₀, env.cells.lookup x = some c ∧ c ≠ 365 ∧ c ≠ 360 ∧ h'.IsCell c v₀) :
    Stt K sc cm KP Y env sl ((ρ.set i (some e)).set j none) (fun k => if k = i then oa j else oa k) h' := by
  have hij : i ≠ j := fun q => by rw [q, hj] at hi; cases hi
  have ftx : Xs cm Y env ρ oa t := .inr (.inl ft)
  have live' : ∀ b, (h.get? b).isSome → (h'.get? b).isSome := fun b q => by
    by_cases hb : b = t
    · rw [hb]; exact al
    · rw [sb.2 b hb]; exact q
  have hX : ∀ b, Xs cm Y env ((ρ.set i (some e)).set j none) (fun k => if k = i then oa j else oa k) b → Xs cm Y env ρ oa b := by
    intro b q
    rcases q with q | q | ⟨k, d', q1, rfl⟩
    · exact .inl q
    · exact .inr (.inl q)
    · rcases move_get hij q1 with ⟨rfl, rfl⟩ | ⟨k1, k2, k3⟩
      · simp only [if_true]; exact .inr (.inr ⟨j, d', he, rfl⟩)
      · simp only [if_neg k1]; exact .inr (.inr ⟨k, d', k3, rfl⟩)
  have hold : ∀ k y u, k ≠ i → sl[k]? = some y → Holds sc env h y u → Holds sc env h' y u := by
    intro k y u hk1 hs hh
    cases y with
    | val z => exact hh
    | nm y => exact hk y u (fun q => hk1 (S.nd k i x (q ▸ hs) hi)) hh
  have rep : ∀ {v : Value} {d : V}, Rep h (Xs cm Y env ρ oa) v d → Rep h' (Xs cm Y env ((ρ.set i (some e)).set j none) (fun k => if k = i then oa j else oa k)) v d := fun r => (touch_rep sb ftx r).sub hX
  have own : ∀ {v : Value} {k : Nat} {d : V}, ρ[k]? = some (some (true, d)) → OwnIs h (Xs cm Y env ρ oa) v (oa k) d → OwnIs h' (Xs cm Y env ((ρ.set i (some e)).set j none) (fun k => if k = i then oa j else oa k)) v (oa k) d := fun {v k d} q r =>
    (touch_own sb ftx (fun (z : oa k = t) => (S.off k d q).1 (z.symm ▸ ft)) r).imp (fun _ e => e) fun _ _ e av => ⟨e, av.mono hX⟩
  refine ⟨fun b o q => (sb.2 b fun z => (S.fa t ft).2.2.2.2.2 o (z ▸ q)).trans (S.keep b o q), S.wd, ⟨live' _ S.live.1, live' _ S.live.2.1, fun a q => ⟨live' _ (S.live.2.2 a q).1, (S.live.2.2 a q).2⟩⟩, fun a q => ⟨live' a (S.fa a q).1, (S.fa a q).2⟩, ns, ?_, ?_, by simp [S.dom], S.nd, hc, S.cel, ?_, ?_, (touch_tabs sb ftx (S.fa t ft).2.2.1 (S.fa t ft).2.2.2.1 S.tabs).mono hX, fun q y c e => ⟨live' c (S.cav q y c e).1, fun z => (S.cav q y c e).2 (hX c z)⟩⟩
  · intro k y d q1 q2
    rcases move_get hij q2 with ⟨rfl, rfl⟩ | ⟨k1, k2, k3⟩
    · rw [hi] at q1; cases q1
      obtain ⟨u, hh, r⟩ := S.fro j _ d hj he
      have : u = v := hh
      subst this
      exact ⟨u, hn, rep r⟩
    · obtain ⟨u, hh, r⟩ := S.fro k y d q1 k3
      exact ⟨u, hold k y u k1 q1 hh, rep r⟩
  · intro k y d q1 q2
    rcases move_get hij q2 with ⟨rfl, rfl⟩ | ⟨k1, k2, k3⟩
    · rw [hi] at q1; cases q1
      obtain ⟨u, hh, r⟩ := S.own j _ d hj he
      have : u = v := hh
      subst this
      exact ⟨u, hn, by simp only [if_true]; exact own he r⟩
    · obtain ⟨u, hh, r⟩ := S.own k y d q1 k3
      exact ⟨u, hold k y u k1 q1 hh, by simp only [if_neg k1]; exact own k3 r⟩
  · intro k d q
    rcases move_get hij q with ⟨rfl, rfl⟩ | ⟨k1, k2, k3⟩
    · simp only [if_true]; exact S.off j d he
    · simp only [if_neg k1]; exact S.off k d k3
  · intro k l d d' q1 q2 q3
    rcases move_get hij q1 with ⟨rfl, rfl⟩ | ⟨k1, k2, k3⟩ <;> rcases move_get hij q2 with ⟨rfl, q4⟩ | ⟨l1, l2, l3⟩
    · rfl
    · simp only [if_true, if_neg l1] at q3
      exact absurd (S.inj j l d d' he l3 q3) (Ne.symm l2)
    · simp only [if_true, if_neg k1] at q3
      subst q4
      exact absurd (S.inj k j d d' k3 he q3) k2
    · simp only [if_neg k1, if_neg l1] at q3
      exact S.inj k l d d' k3 l3 q3

/-- knowing less; or of what is ours alone, that it is there -/
noncomputable def Sub (ρ' ρ : List Ent) : Prop := ρ'.length ≤ ρ.length ∧ ∀ (i : Nat) (o : Bool) (d : V), ρ'[i]? = some (some (o, d)) → ρ[i]? = some (some (o, d)) ∨ (o = false ∧ ρ[i]? = some (some (true, d)))
theorem Stt.sub (S : Stt K sc cm KP Y env sl ρ oa h) {ρ' : List Ent} (s : Sub ρ' ρ) {m : Nat} (hm : ρ'.length = m) : Stt K sc cm KP Y env (sl.take m) ρ' oa h := by
  have hX : ∀ b, Xs cm Y env ρ' oa b → Xs cm Y env ρ oa b := by
    intro b q
    rcases q with q | q | ⟨k, d', q1, rfl⟩
    · exact .inl q
    · exact .inr (.inl q)
    · rcases s.2 k true d' q1 with q2 | ⟨q2, _⟩
      · exact .inr (.inr ⟨k, d', q2, rfl⟩)
      · exact ff q2.symm
  have get : ∀ (i : Nat) (x : Slot), (sl.take m)[i]? = some x → sl[i]? = some x := fun i x q => by
    rw [List.getElem?_take] at q
    split at q
    · exact q
    · exact nn q
  refine { S with fro := ?_, own := ?_, dom := ?_, off := ?_, inj := ?_, nd := ?_, tabs := S.tabs.mono hX, cav := fun q y c e => ⟨(S.cav q y c e).1, fun z => (S.cav q y c e).2 (hX _ z)⟩ }
  · intro i x d q1 q2
    rcases s.2 i false d q2 with q3 | ⟨_, q3⟩
    · obtain ⟨v, hh, r⟩ := S.fro i x d (get i x q1) q3
      exact ⟨v, hh, r.sub hX⟩
    · obtain ⟨v, hh, r⟩ := S.own i x d (get i x q1) q3
      refine ⟨v, hh, r.rep hX ⟨fun z => ?_, (S.off i d q3).2.2.1, (S.off i d q3).2.2.2.1⟩⟩
      rcases z with z | z | ⟨k, d', q4, q5⟩
      · exact (S.off i d q3).2.1 z
      · exact (S.off i d q3).1 z
      · rcases s.2 k true d' q4 with q6 | ⟨q6, _⟩
        · have := S.inj k i d' d q6 q3 q5
          subst this
          rw [q2] at q4; cases q4
        · exact ff q6.symm
  · intro i x d q1 q2
    rcases s.2 i true d q2 with q3 | ⟨q3, _⟩
    · obtain ⟨v, hh, r⟩ := S.own i x d (get i x q1) q3
      exact ⟨v, hh, r.imp (fun _ e => e) fun _ _ e av => ⟨e, av.mono hX⟩⟩
    · exact ff q3.symm
  · rw [List.length_take, ← hm, Nat.min_eq_left (by rw [← S.dom]; exact s.1)]
  · intro i j x q1 q2
    exact S.nd i j x (get i _ q1) (get j _ q2)
  · intro i d q
    rcases s.2 i true d q with q3 | ⟨q3, _⟩
    · exact S.off i d q3
    · exact ff q3.symm
  · intro i j d e q1 q2 q3
    rcases s.2 i true d q1 with q4 | ⟨q4, _⟩
    · rcases s.2 j true e q2 with q5 | ⟨q5, _⟩
      · exact S.inj i j d e q4 q5 q3
      · exact ff q5.symm
    · exact ff q4.symm

/-- a change at an owned address -/
theorem Stt.mutate (S : Stt K sc cm KP Y env sl ρ oa h) {i : Nat} {d d' : V} (hi : ρ[i]? = some (some (true, d))) (sb : Heap.SameBut (oa i) h h') (o : ∀ (x : Slot) (v : Value), sl[i]? = some x → Holds sc env h x v → OwnIs h (Xs cm Y env ρ oa) v (oa i) d → OwnIs h' (Xs cm Y env ρ oa) v (oa i) d') (al : (h'.get? (oa i)).isSome) :
    Stt K sc cm KP Y env sl (ρ.set i (some (true, d'))) oa h' := by
  have off := S.off i d hi
  have ftx : Xs cm Y env ρ oa (oa i) := .inr (.inr ⟨i, d, hi, rfl⟩)
  have hlt : i < ρ.length := (List.getElem?_eq_some_iff.mp hi).1
  have get : ∀ (k : Nat) (q : Bool × V), (ρ.set i (some (true, d')))[k]? = some (some q) → (k = i ∧ q = (true, d')) ∨ (k ≠ i ∧ ρ[k]? = some (some q)) := by
    intro k q e
    rw [List.getElem?_set] at e
    split at e
    · rename_i z
      first
        | (cases e; exact .inl ⟨z.symm, rfl⟩)
        | (split at e
           · cases e; exact .inl ⟨z.symm, rfl⟩
           · cases e)
    · rename_i z
      exact .inr ⟨Ne.symm z, e⟩
  have get1 : ∀ (k : Nat) (q : V), (ρ.set i (some (true, d')))[k]? = some (some (true, q)) → ∃ q', ρ[k]? = some (some (true, q')) := by
    intro k q e
    rcases get k _ e with ⟨rfl, q2⟩ | ⟨_, q2⟩
    · exact ⟨d, hi⟩
    · exact ⟨q, q2⟩
  have hX : ∀ b, Xs cm Y env (ρ.set i (some (true, d'))) oa b → Xs cm Y env ρ oa b := by
    intro b q
    rcases q with q | q | ⟨k, e, q1, rfl⟩
    · exact .inl q
    · exact .inr (.inl q)
    · obtain ⟨e', q2⟩ := get1 k e q1
      exact .inr (.inr ⟨k, e', q2, rfl⟩)
  have live' : ∀ b, (h.get? b).isSome → (h'.get? b).isSome := fun b q => by
    by_cases hb : b = oa i
    · rw [hb]; exact al
    · rw [sb.2 b hb]; exact q
  have hold : ∀ y u, Holds sc env h y u → Holds sc env h' y u := by
    intro y u hh
    cases y with
    | val z => exact hh
    | nm y =>
      rcases hh with ⟨a, m, n, e⟩ | ⟨a, c, e, n1, n2, ⟨q, i1, i2⟩⟩
      · exact .inl ⟨a, m, Ns.le n fun o e => (sb.2 _ fun z => off.1 (.inl z.symm)).trans e, e⟩
      · by_cases hc : c = oa i
        · exfalso
          obtain ⟨x, hx⟩ := Stt.slot (S := S) hi
          obtain ⟨v, _, ow⟩ := S.own i x d hx hi
          subst hc
          cases ow with
          | list a1 _ => rw [a1] at i1; cases i1; cases i2
          | inst _ _ a1 _ _ => rw [a1] at i1; cases i1; cases i2
          | idict a1 a2 _ => rw [a1] at i1; cases i1; obtain ⟨_, _, _, e⟩ := a2.cls; rw [e] at i2; cases i2
        · exact .inr ⟨a, c, e, n1, n2, ⟨q, (sb.2 c hc).trans i1, i2⟩⟩
  refine ⟨fun b o q => (sb.2 b fun z => off.2.2.2.2.2 o (z ▸ q)).trans (S.keep b o q), S.wd, ⟨live' _ S.live.1, live' _ S.live.2.1, fun a q => ⟨live' _ (S.live.2.2 a q).1, (S.live.2.2 a q).2⟩⟩, fun a q => ⟨live' a (S.fa a q).1, (S.fa a q).2⟩, ?_, ?_, ?_, by simp [S.dom], S.nd, fun x q => ?_, S.cel, ?_, ?_, (touch_tabs sb ftx off.2.2.1 off.2.2.2.1 S.tabs).mono hX, fun q y c e => ⟨live' c (S.cav q y c e).1, fun z => (S.cav q y c e).2 (hX c z)⟩⟩
  · obtain ⟨m, n⟩ := S.ns
    exact ⟨m, Ns.le n fun o e => (sb.2 _ fun z => off.1 (.inl z.symm)).trans e⟩
  · intro k y e q1 q2
    rcases get k _ q2 with ⟨_, q3⟩ | ⟨k1, k3⟩
    · cases q3
    · obtain ⟨u, hh, r⟩ := S.fro k y e q1 k3
      exact ⟨u, hold y u hh, (touch_rep sb ftx r).sub hX⟩
  · intro k y e q1 q2
    rcases get k _ q2 with ⟨rfl, q3⟩ | ⟨k1, k3⟩
    · cases q3
      obtain ⟨u, hh, r⟩ := S.own k y d q1 hi
      exact ⟨u, hold y u hh, (o y u q1 hh r).imp (fun _ e => e) fun _ _ e av => ⟨e, av.mono hX⟩⟩
    · obtain ⟨u, hh, r⟩ := S.own k y e q1 k3
      refine ⟨u, hold y u hh, (touch_own sb ftx (fun z => k1 (S.inj k i e d k3 hi z)) r).imp (fun _ e => e) fun _ _ e av => ⟨e, av.mono hX⟩⟩
  · obtain ⟨c, v₀, e, n1, n2, ⟨o', i1, i2⟩⟩ := S.cex x q
    refine ⟨c, v₀, e, n1, n2, ⟨o', (sb.2 c fun z => ?_).trans i1, i2⟩⟩
    obtain ⟨x, hx⟩ := Stt.slot (S := S) hi
    obtain ⟨v, _, ow⟩ := S.own i x d hx hi
    subst z
    cases ow with
    | list a1 _ => rw [a1] at i1; cases i1; cases i2
    | inst _ _ a1 _ _ => rw [a1] at i1; cases i1; cases i2
    | idict a1 a2 _ => rw [a1] at i1; cases i1; obtain ⟨_, _, _, e⟩ := a2.cls; rw [e] at i2; cases i2
  · intro k e q
    obtain ⟨e', q2⟩ := get1 k e q
    exact S.off k e' q2
  · intro k l e f q1 q2 q3
    obtain ⟨e', q4⟩ := get1 k e q1
    obtain ⟨f', q5⟩ := get1 l f q2
    exact S.inj k l e' f' q4 q5 q3
end
end Mine

-- B7
namespace Mine
variable {K : Frag} {p : Program} {w : World} {n : Nat} {sc : Scope} {cm : Bool} {xs : List Str} {ρ : List Ent}

noncomputable def KPok (KP : Addr → Obj → Prop) : Prop := ∀ b o, KP b o → b ≠ 365 ∧ b ≠ 360
noncomputable def NmOk (sl : List Slot) (xs : List Str) : Prop := ∀ (i : Nat) (x : Str), xs[i]? = some x → sl[i]? = some (.nm x)
noncomputable def PreOk (ρ ρt : List Ent) : Prop := ∀ (i : Nat) (e : Bool × V), ρ[i]? = some (some e) → ρt[i]? = some (some e)
noncomputable def kindOk (sc : Scope) (cm : Bool) (x : Str) : Prop := sc.names.lookup x = some .local ∨ (sc.names.lookup x = some .cell ∧ cm = true)

theorem wp_store {M : Model} {KP : Addr → Obj → Prop} {Y : Addr → Prop} {env : Env} {sl : List Slot} {ρ : List Ent} {oa : Nat → Addr} {A : Around} {E : Value → Shared → Prop} {s : Shared} {Q : Unit → Shared → Prop} (S : Stt K sc cm KP Y env sl ρ oa s.heap) (eo : EnvOk sc env)
    {i j : Nat} {x : Str} {v : Value} {e : Bool × V} (hi : sl[i]? = some (.nm x)) (hj : sl[j]? = some (.val v)) (he : ρ[j]? = some (some e)) (kd : kindOk sc cm x)
    (q : ∀ h' oa' tk, Stt K sc cm KP Y env sl ((ρ.set i (some e)).set j none) oa' h' → Q () { s with heap := h', toks := tk }) : wpAny M A (storeName env x v) Q E s := by
  have hk : env.scope.kind = .function := by rw [eo.sco]; exact eo.kd
  have kk : env.kindOf x = sc.names.lookup x := by unfold Env.kindOf; rw [eo.sco]
  rcases kd with kd | ⟨kd, rfl⟩
  · obtain ⟨m, n⟩ := S.ns
    refine wpAny_storeName_local (kk.trans kd) n (fun h' hn sb => ?_) (by rw [hk]; rfl)
    have cc : ∀ c (v₀ : Option Value), (∃ y, env.cells.lookup y = some c) → s.heap.IsCell c v₀ → h'.IsCell c v₀ := fun c v₀ ⟨y, e⟩ i => i.sameBut sb (S.cel.1 y c e)
    refine q h' _ _ (S.move hi hj he (.inl rfl) sb (by obtain ⟨o, _, _, e, _⟩ := hn; rw [e]; rfl) (.inl ⟨kd, _, hn, if_pos rfl⟩) (fun y u hy hh => ?_) ⟨_, hn⟩ fun x q => ?_)
    · rcases hh with ⟨a, m', n', e'⟩ | ⟨a, c, e', n1, n2, i⟩
      · refine .inl ⟨a, _, hn, ?_⟩
        rw [if_neg hy, Ns.det n n' y]; exact e'
      · exact .inr ⟨a, c, e', n1, n2, cc c _ ⟨y, e'⟩ i⟩
    · obtain ⟨c, v₀, e, n1, n2, i⟩ := S.cex x q
      exact ⟨c, v₀, e, n1, n2, cc c _ ⟨x, e⟩ i⟩
  · obtain ⟨c, v₀, ec, n1, n2, ic⟩ := S.cex x kd
    refine wpAny_storeName_cell hk (kk.trans kd) ec ic fun h' hc sb => ?_
    have cl : env.locals ≠ c := Ne.symm (S.cel.1 x c ec)
    have ns : ∀ m, s.heap.Ns env.locals m → h'.Ns env.locals m := fun m n => Ns.le n fun o e => (sb.2 _ cl).trans e
    refine q h' _ _ (S.move hi hj he (.inr ⟨rfl, x, ec⟩) sb (by obtain ⟨o, e, _⟩ := hc; rw [e]; rfl) (.inr ⟨.inl kd, c, ec, n1, n2, hc⟩) (fun y u hy hh => ?_) (let ⟨m, n⟩ := S.ns; ⟨m, ns m n⟩) fun y q => ?_)
    · rcases hh with ⟨a, m', n', e'⟩ | ⟨a, c', e', m1, m2, i⟩
      · exact .inl ⟨a, m', ns m' n', e'⟩
      · exact .inr ⟨a, c', e', m1, m2, i.sameBut sb fun z => hy (S.cel.2 y x c (z ▸ e') ec)⟩
    · by_cases hy : y = x
      · subst hy; exact ⟨c, _, ec, n1, n2, hc⟩
      · obtain ⟨c', v₁, e', m1, m2, i⟩ := S.cex y q
        exact ⟨c', v₁, e', m1, m2, i.sameBut sb fun z => hy (S.cel.2 y x c (z ▸ e') ec)⟩

/-! data of scalars and tuples; of these and lists -/
mutual
noncomputable def V.tup : V → Bool
  | .none | .bool _ | .int _ | .str _ | .bytes _ | .ty _ => true
  | .tuple xs => V.tups xs
  | _ => false
noncomputable def V.tups : List V → Bool
  | [] => true
  | x :: xs => x.tup && V.tups xs
end
mutual
noncomputable def V.sq : V → Bool
  | .none | .bool _ | .int _ | .str _ | .bytes _ | .ty _ => true
  | .tuple xs | .list xs => V.sqs xs
  | _ => false
noncomputable def V.sqs : List V → Bool
  | [] => true
  | x :: xs => x.sq && V.sqs xs
end
section
variable {h : Heap} {X Z : Addr → Prop}
theorem offs (h2 : V → Bool) (h3 : List V → Bool) (l1 : ∀ xs, h2 (.tuple xs) = h3 xs) (l2 : ∀ xs, h2 (.list xs) = true → h3 xs = true) (l3 : ∀ x xs, h3 (x :: xs) = (h2 x && h3 xs)) (b1 : ∀ i C fs, h2 (.inst i C fs) = false) (b2 : ∀ a b c, h2 (.range a b c) = false) (b3 : ∀ a, h2 (.fn a) = false) (b4 : ∀ L cs, h2 (.lam L cs) = false) (b5 : ∀ ks, h2 (.idict ks) = false)
    (hz : ∀ a o, Z a → h.get? a = some o → o.cls ≠ .type "tuple" ∧ (o.cls = .type "list" → ∀ xs, h2 (.list xs) = false)) :
    (∀ {v : Value} {d : V}, Rep h X v d → h2 d = true → Rep h (fun a => X a ∨ Z a) v d) ∧ (∀ {v : List Value} {d : List V}, RepL h X v d → h3 d = true → RepL h (fun a => X a ∨ Z a) v d) ∧ (∀ {v : List DictEntry} {d : List (Str × V)}, RepF h X v d → h3 (d.map (·.2)) = true → RepF h (fun a => X a ∨ Z a) v d) ∧ (∀ {v : List (Str × Addr)} {d : List (Str × V)}, RepC h X v d → True) :=
  Rep.ind (fun _ => .none) (fun b _ => .bool b) (fun i t _ => .int i t) (fun x t _ => .str x t) (fun x t _ => .bytes x t)
    (fun a b c e f q => .tuple a b c ⟨fun z => z.elim e.1 fun z => (hz _ _ z a).1 b, e.2⟩ (f (l1 _ ▸ q))) (fun a b c e f q => .list a b c ⟨fun z => z.elim e.1 fun z => ff (((hz _ _ z a).2 b _).symm.trans q), e.2⟩ (f (l2 _ q))) (fun _ _ _ _ _ _ q => ff ((b1 _ _ _).symm.trans q)) (fun _ _ q => ff ((b2 _ _ _).symm.trans q)) (fun x _ => .ty x) (fun _ q => ff ((b3 _).symm.trans q))
    (fun _ _ _ _ _ _ _ _ _ _ _ _ _ _ _ _ _ q => ff ((b4 _ _).symm.trans q)) (fun _ _ _ _ q => ff ((b5 _).symm.trans q)) (fun _ => .nil) (fun a b q => have q' := Bool.and_eq_true_iff.mp (l3 _ _ ▸ q); .cons (a q'.1) (b q'.2)) (fun _ => .nil) (fun a b q => have q' := Bool.and_eq_true_iff.mp (l3 _ _ ▸ q); .cons (a q'.1) (b q'.2)) trivial fun _ _ _ _ => trivial
theorem Rep.offTup (hz : ∀ a, Z a → ∃ o, h.get? a = some o ∧ o.cls ≠ .type "tuple") {v : Value} {d : V} (r : Rep h X v d) (t : d.tup = true) : Rep h (fun a => X a ∨ Z a) v d :=
  (offs V.tup V.tups (fun _ => rfl) (fun _ => ff) (fun _ _ => rfl) (fun _ _ _ => rfl) (fun _ _ _ => rfl) (fun _ => rfl) (fun _ _ => rfl) (fun _ => rfl) fun a _ z e => (hz a z).elim fun _ q => ⟨Option.some.inj (q.1.symm.trans e) ▸ q.2, fun _ _ => rfl⟩).1 r t
theorem RepL.offTup (hz : ∀ a, Z a → ∃ o, h.get? a = some o ∧ o.cls ≠ .type "tuple") {v : List Value} {d : List V} (r : RepL h X v d) (t : V.tups d = true) : RepL h (fun a => X a ∨ Z a) v d :=
  (offs V.tup V.tups (fun _ => rfl) (fun _ => ff) (fun _ _ => rfl) (fun _ _ _ => rfl) (fun _ _ _ => rfl) (fun _ => rfl) (fun _ _ => rfl) (fun _ => rfl) fun a _ z e => (hz a z).elim fun _ q => ⟨Option.some.inj (q.1.symm.trans e) ▸ q.2, fun _ _ => rfl⟩).2.1 r t
theorem RepF.offSq (hz : ∀ a, Z a → ∃ o, h.get? a = some o ∧ o.cls ≠ .type "tuple" ∧ o.cls ≠ .type "list") {v : List DictEntry} {d : List (Str × V)} (r : RepF h X v d) (t : V.sqs (d.map (·.2)) = true) : RepF h (fun a => X a ∨ Z a) v d :=
  (offs V.sq V.sqs (fun _ => rfl) (fun _ => id) (fun _ _ => rfl) (fun _ _ _ => rfl) (fun _ _ _ => rfl) (fun _ => rfl) (fun _ _ => rfl) (fun _ => rfl) fun a _ z e => (hz a z).elim fun _ q => ⟨Option.some.inj (q.1.symm.trans e) ▸ q.2.1, fun l => (q.2.2 ((Option.some.inj (q.1.symm.trans e)).symm ▸ l)).elim⟩).2.2.1 r t
end

/-! the right side of an assignment: its value becomes a temporary -/
noncomputable def Rhs (K : Frag) (p : Program) (w : World) (n : Nat) (sc : Scope) (cm : Bool) (xs : List Str) (ρ : List Ent) (e : Expr) (o : Bool) (d : V) : Prop :=
  ∀ (A : Around) (E : Value → Shared → Prop) (s : Shared) (KP : Addr → Obj → Prop) (Y : Addr → Prop) (env : Env) (sl : List Slot) (ρt : List Ent) (oa : Nat → Addr) (Q : Value → Shared → Prop),
    Rm n A → EnvOk sc env → KPok KP → NmOk sl xs → PreOk ρ ρt → Stt K sc cm KP Y env sl ρt oa s.heap →
    (∀ v oa' h' tk, Le (Xs cm Y env ρt oa) s.heap h' → Stt K sc cm KP Y env (sl ++ [.val v]) (ρt ++ [some (o, d)]) oa' h' → Q v { s with heap := h', toks := tk }) → wpAny (model p w) A (eval e env) Q E s
section
variable {KP : Addr → Obj → Prop} {Y : Addr → Prop} {env : Env} {sl : List Slot} {ρt : List Ent} {oa : Nat → Addr} {h : Heap}
theorem get_hid {ρ : List Ent} {i : Nat} {d : V} (h : ρ[i]? = some (some (false, d))) : (hid ρ)[i]? = some (some d) := by
  unfold hid; rw [List.getElem?_map, h]; rfl
theorem get_shw {ρ : List Ent} {i : Nat} {b : Bool} {d : V} (h : ρ[i]? = some (some (b, d))) : (shw ρ)[i]? = some (some d) := by
  unfold shw; rw [List.getElem?_map, h]; rfl
theorem Stt.hid' (S : Stt K sc cm KP Y env sl ρt oa h) (nm : NmOk sl xs) (pre : PreOk ρ ρt) : Vars sc env h (Xs cm Y env ρt oa) xs (hid ρ) :=
  fun i x d a b => S.hidden nm i x d a (get_hid (pre _ _ (hid_get b)))
theorem Stt.shw' (S : Stt K sc cm KP Y env sl ρt oa h) (nm : NmOk sl xs) (pre : PreOk ρ ρt) : Vars sc env h (fun a => Y a ∨ Fa cm env a) xs (shw ρ) :=
  fun i x d a b => let ⟨o, q⟩ := shw_get b; S.shown nm i x d a (get_shw (pre _ _ q))
theorem Stt.ownCls (S : Stt K sc cm KP Y env sl ρt oa h) : ∀ a, OwnS ρt oa a → ∃ o, h.get? a = some o ∧ o.cls ≠ .type "tuple" := by
  rintro a ⟨i, d, e, rfl⟩
  obtain ⟨x, hx⟩ := Stt.slot (S := S) e
  obtain ⟨v, _, o⟩ := S.own i x d hx e
  exact o.alive
theorem Xs.split {a : Addr} (q : Xs cm Y env ρt oa a) : (Y a ∨ Fa cm env a) ∨ OwnS ρt oa a := by
  rcases q with q | q | q
  · exact .inl (.inl q)
  · exact .inl (.inr q)
  · exact .inr q
end
theorem Rhs.hid {e : Expr} {fr : Bool} {d : V} (h : Evs K p w n sc xs (hid ρ) e fr d) : Rhs K p w n sc cm xs ρ e false d :=
  fun A E s KP Y env sl ρt oa Q r eo kp nm pre S q => h.weak A E s _ env _ r eo S.world S.liveX (S.hid' nm pre) fun v h' tk l rp _ => q v oa h' tk l ((S.le kp eo l).addFro rp)
theorem Rhs.tup {e : Expr} {fr : Bool} {d : V} (h : Evs K p w n sc xs (shw ρ) e fr d) (t : d.tup = true) : Rhs K p w n sc cm xs ρ e false d :=
  fun A E s KP Y env sl ρt oa Q r eo kp nm pre S q => h.weak A E s _ env _ r eo S.world S.liveF (S.shw' nm pre) fun v h' tk l₀ rp _ => by
    have l := S.up l₀
    have S' := S.le kp eo l
    exact q v oa h' tk l (S'.addFro ((rp.offTup S'.ownCls t).sub fun a z => Xs.split z))
theorem Rhs.newList {e : Expr} {ds : List V} (h : Evs K p w n sc xs (shw ρ) e true (.list ds)) (t : V.tups ds = true) : Rhs K p w n sc cm xs ρ e true (.list ds) :=
  fun A E s KP Y env sl ρt oa Q r eo kp nm pre S q => h A E s _ env _ r eo S.world S.liveF (S.shw' nm pre) fun v h' tk l₀ rp f => by
    have l := S.up l₀
    have S' := S.le kp eo l
    obtain ⟨a, rfl, _, f4⟩ := f rfl
    cases rp using Rep.casesList with
    | list a1 a2 a3 a4 a5 =>
      rename_i o vs m
      have hn : s.heap.get? a = none := by
        cases q1 : s.heap.get? a with
        | none => rfl
        | some o' => exact absurd ⟨a4.2.1, a4.2.2, q1⟩ ((f4 o a1 a2).1 o')
      have e := (f4 o a1 a2).2
      rw [a3] at e
      have hz : ∀ b, (OwnS ρt oa b ∨ b = a) → ∃ q, h'.get? b = some q ∧ q.cls ≠ .type "tuple" := fun b z => by
        rcases z with z | rfl
        · exact S'.ownCls b z
        · exact ⟨o, a1, by rw [a2]; simp⟩
      refine q (.ref a) _ h' tk l (S.addOwn kp eo l hn (.list (n := m) (e ▸ a1) ((a5.offTup hz t).sub fun b z => ?_)))
      rcases z with z | z
      · exact (Xs.split z).imp_right .inl
      · exact .inr (.inr z)
theorem Rhs.newInst {e : Expr} {C : Addr} {fs : List (Str × V)} (h : Evs K p w n sc xs (Mine.hid ρ) e true (.inst none C fs)) (t : V.sqs (fs.map (·.2)) = true) : Rhs K p w n sc cm xs ρ e true (.inst none C fs) :=
  fun A E s KP Y env sl ρt oa Q r eo kp nm pre S q => h A E s _ env _ r eo S.world S.liveX (S.hid' nm pre) fun v h' tk l rp f => by
    have S' := S.le kp eo l
    obtain ⟨a, rfl, f3, f4⟩ := f rfl
    cases rp using Rep.casesInst with
    | inst b1 b2 b3 b4 b5 b6 =>
      rename_i dx es m
      have hn : s.heap.get? dx = none := by
        cases q1 : s.heap.get? dx with
        | none => rfl
        | some o' => exact absurd ⟨b4.2.1, b4.2.2, q1⟩ (f3 C dx b1 o')
      have hz : ∀ b, (b = dx) → ∃ q, h'.get? b = some q ∧ q.cls ≠ .type "tuple" ∧ q.cls ≠ .type "list" := fun b z => by
        subst z
        exact ⟨_, b2, by simp, by simp⟩
      have hne : a ≠ dx := fun z => by rw [z, b2] at b1; cases b1
      refine q (.ref a) _ h' tk l (S.addOwn kp eo l hn (.inst (n := m) b1 ⟨fun z => z.elim b3.1 hne, b3.2⟩ b2 (b5.offSq hz t) (fun _ z => by exact nn z)))
end Mine

-- B8
namespace Mine
variable {K : Frag} {p : Program} {w : World} {n : Nat} {sc : Scope} {cm : Bool} {xs : List Str} {ρ : List Ent}

noncomputable abbrev PostN := List Ent → Prop
noncomputable abbrev PostR := List Ent → Bool → V → Prop
/-- what stands for a frame whose names are xs -/
noncomputable abbrev Sn (K : Frag) (sc : Scope) (cm : Bool) (KP : Addr → Obj → Prop) (Y : Addr → Prop) (env : Env) (xs : List Str) (ρ : List Ent) (oa : Nat → Addr) (h : Heap) : Prop := Stt K sc cm KP Y env (xs.map .nm) ρ oa h
noncomputable def RunsTo (K : Frag) (p : Program) (w : World) (n : Nat) (sc : Scope) (cm : Bool) (xs : List Str) (ρ : List Ent) (run : Env → Sem Flow) (Φ : PostN) (Ψ : PostR) : Prop :=
  ∀ (A : Around) (E : Value → Shared → Prop) (s : Shared) (KP : Addr → Obj → Prop) (Y : Addr → Prop) (env : Env) (oa : Nat → Addr) (Q : Flow → Shared → Prop),
    Rm n A → EnvOk sc env → KPok KP → Sn K sc cm KP Y env xs ρ oa s.heap →
    (∀ ρ' oa' h' tk, Φ ρ' → Sn K sc cm KP Y env xs ρ' oa' h' → Q .next { s with heap := h', toks := tk }) →
    (∀ ρ' oa' fr d v h' tk, Ψ ρ' fr d → Sn K sc cm KP Y env xs ρ' oa' h' → Rep h' Y v d → (fr = true → FreshV KP h' v) → Q (.ret v) { s with heap := h', toks := tk }) →
    wpAny (model p w) A (run env) Q E s
noncomputable abbrev Tr1 (K : Frag) (p : Program) (w : World) (n : Nat) (sc : Scope) (cm : Bool) (xs : List Str) (ρ : List Ent) (st : Stmt) (Φ : PostN) (Ψ : PostR) : Prop := RunsTo K p w n sc cm xs ρ (fun env => exec st env) Φ Ψ
noncomputable abbrev Tr (K : Frag) (p : Program) (w : World) (n : Nat) (sc : Scope) (cm : Bool) (xs : List Str) (ρ : List Ent) (ss : List Stmt) (Φ : PostN) (Ψ : PostR) : Prop := RunsTo K p w n sc cm xs ρ (fun env => execs ss env) Φ Ψ

theorem nmOk : NmOk (xs.map .nm) xs := fun i x e => by rw [List.getElem?_map, e]; rfl
theorem preRefl : PreOk ρ ρ := fun _ _ e => e

theorem Tr.nil {Φ : PostN} {Ψ : PostR} (h : Φ ρ) : Tr K p w n sc cm xs ρ [] Φ Ψ :=
  fun A E s KP Y env oa Q r eo kp S qn qr => wpAny_execs_nil (qn ρ oa s.heap s.toks h S)
theorem Tr.cons {st : Stmt} {ss : List Stmt} {Φ₁ Φ : PostN} {Ψ : PostR} (h : Tr1 K p w n sc cm xs ρ st Φ₁ Ψ) (t : ∀ ρ', Φ₁ ρ' → Tr K p w n sc cm xs ρ' ss Φ Ψ) : Tr K p w n sc cm xs ρ (st :: ss) Φ Ψ :=
  fun A E s KP Y env oa Q r eo kp S qn qr => wpAny_execs_cons (h A E s KP Y env oa _ r eo kp S
    (fun ρ' oa' h' tk f S' => t ρ' f A E { s with heap := h', toks := tk } KP Y env oa' Q r eo kp S' qn qr)
    (fun ρ' oa' fr d v h' tk f S' r f2 => qr ρ' oa' fr d v h' tk f S' r f2))
theorem Tr.step {st : Stmt} {ss : List Stmt} {ρ' : List Ent} {Φ : PostN} {Ψ : PostR} (h : Tr1 K p w n sc cm xs ρ st (· = ρ') Ψ) (t : Tr K p w n sc cm xs ρ' ss Φ Ψ) : Tr K p w n sc cm xs ρ (st :: ss) Φ Ψ :=
  .cons h fun ρ' e => e ▸ t
theorem RunsTo.mono {run : Env → Sem Flow} {Φ Φ' : PostN} {Ψ Ψ' : PostR} (h : RunsTo K p w n sc cm xs ρ run Φ Ψ) (a : ∀ ρ, Φ ρ → Φ' ρ) (b : ∀ ρ fr d, Ψ ρ fr d → Ψ' ρ fr d) : RunsTo K p w n sc cm xs ρ run Φ' Ψ' :=
  fun A E s KP Y env oa Q r eo kp S qn qr => h A E s KP Y env oa Q r eo kp S (fun ρ' oa' h' tk f S' => qn ρ' oa' h' tk (a _ f) S') (fun ρ' oa' fr d v h' tk f S' r f2 => qr ρ' oa' fr d v h' tk (b _ _ _ f) S' r f2)
theorem Sn.sub {KP : Addr → Obj → Prop} {Y : Addr → Prop} {env : Env} {oa : Nat → Addr} {h : Heap} {ρ' : List Ent} (S : Sn K sc cm KP Y env xs ρ oa h) (s : Sub ρ' ρ) (e : ρ'.length = ρ.length) : Sn K sc cm KP Y env xs ρ' oa h := by
  have := Stt.sub S s (m := xs.length) (by rw [e, S.dom, List.length_map])
  rw [List.take_of_length_le (by simp)] at this
  exact this
theorem RunsTo.forget {run : Env → Sem Flow} {Φ : PostN} {Ψ : PostR} {ρ' : List Ent} (h : RunsTo K p w n sc cm xs ρ' run Φ Ψ) (s : Sub ρ' ρ) (e : ρ'.length = ρ.length) : RunsTo K p w n sc cm xs ρ run Φ Ψ :=
  fun A E s' KP Y env oa Q r eo kp S qn qr => h A E s' KP Y env oa Q r eo kp (Sn.sub S s e) qn qr

/-- a kind of value that is no comprehension: it is evaluated, then stored -/
noncomputable def noComp : Expr → Bool
  | .ListComp .. | .SetComp .. | .DictComp .. => false
  | _ => true
theorem swaps_no {e : Expr} {t : Option Expr} {l : Nat} {env : Env} (h : noComp e = true) : swapsWith e t l env = pure false := by
  cases e <;> first | rfl | exact ff h

/-- storing a temporary, and letting the temporaries go -/
theorem stores_one {KP : Addr → Obj → Prop} {Y : Addr → Prop} {env : Env} {oa : Nat → Addr} {A : Around} {E : Value → Shared → Prop} {s : Shared} {Q : Unit → Shared → Prop} {i : Nat} {x : Str} {v : Value} {e : Bool × V}
    (eo : EnvOk sc env) (S : Stt K sc cm KP Y env (xs.map .nm ++ [.val v]) (ρ ++ [some e]) oa s.heap) (hi : xs[i]? = some x) (kd : kindOk sc cm x)
    (q : ∀ h' oa' tk, Sn K sc cm KP Y env xs (ρ.set i (some e)) oa' h' → Q () { s with heap := h', toks := tk }) : wpAny (model p w) A (storeName env x v) Q E s := by
  have hlt : i < xs.length := (List.getElem?_eq_some_iff.mp hi).1
  have hd : ρ.length = xs.length := by
    have := S.dom
    simpa using this
  refine wp_store (i := i) (j := xs.length) S eo ?_ ?_ (e := e) ?_ kd fun h' oa' tk S' => ?_
  · rw [List.getElem?_append_left (by simpa using hlt), List.getElem?_map, hi]; rfl
  · rw [List.getElem?_append_right (by simp)]; simp
  · rw [List.getElem?_append_right (by rw [hd]; exact Nat.le_refl _)]; simp [hd]
  · refine q h' oa' tk ?_
    rw [List.set_append_left _ _ (by rw [hd]; exact hlt)] at S'
    have S2 := S'.sub (ρ' := ρ.set i (some e)) (m := xs.length) ⟨by simp, fun k o d z => .inl ?_⟩ (by simp [hd])
    · rw [List.take_append_of_le_length (by simp), List.take_of_length_le (by simp)] at S2
      exact S2
    · have hk : k < (ρ.set i (some e)).length := (List.getElem?_eq_some_iff.mp z).1
      rw [List.length_set] at hk
      rw [List.getElem?_set_ne (by omega), List.getElem?_append_left (by simpa using hk)]
      exact z

theorem Tr1.assign {x : Str} {pp pos : Pos} {e : Expr} {o : Bool} {d : V} {Ψ : PostR} {i : Nat} (h : Rhs K p w n sc cm xs ρ e o d) (hi : xs[i]? = some x) (kd : kindOk sc cm x) (hc : noComp e = true := by rfl) :
    Tr1 K p w n sc cm xs ρ (.Assign [.Name x pp] e pos) (· = ρ.set i (some (o, d))) Ψ :=
  fun A E s KP Y env oa Q r eo kp S qn qr => wpAny_Assign_Name (h A E s KP Y env _ _ oa _ r eo kp nmOk preRefl S fun v oa' h' tk _ S' =>
    stores_one (s := { s with heap := h', toks := tk }) eo S' hi kd fun h'' oa'' tk' S'' => qn _ oa'' h'' tk' rfl S'') (swaps_no hc)

/-- x += e, x -= e of ints -/
theorem Tr1.aug {x : Str} {pp pos : Pos} {e : Expr} {op : Operator} {a b c : Int} {o : Bool} {Ψ : PostR} {i : Nat}
    (hop : ∀ (A : Around) (E : Value → Shared → Prop) (s : Shared) (t u : Tok) (Q : Value → Shared → Prop), (∀ tk, Q (.int c tk) { s with toks := s.toks + 1 }) → wpAny (model p w) A (inplaceOp op (.int a t) (.int b u)) Q E s)
    (hi : xs[i]? = some x) (hd : ρ[i]? = some (some (o, .int a))) (kd : kindOk sc cm x) (h : Evs K p w n sc xs (shw ρ) e false (.int b)) (h2 : (x == ("__classdict__" : Str)) = false := by decide +kernel) :
    Tr1 K p w n sc cm xs ρ (.AugAssign (.Name x pp) op e pos) (· = ρ.set i (some (false, .int c))) Ψ :=
  fun A E s KP Y env oa Q r eo kp S qn qr => wpAny_AugAssign_Name (VarAt.load eo (S.shw' nmOk preRefl i x _ hi (get_shw hd)) h2 fun v rv => by
    cases rv using Rep.casesInt
    refine h.two r eo S.world S.liveF (S.shw' nmOk preRefl) fun v h' tk l rp _ _ _ => ?_
    cases rp using Rep.casesInt
    refine hop _ _ { s with heap := h', toks := tk } _ _ _ fun tk2 => ?_
    exact stores_one (s := { s with heap := h', toks := tk + 1 }) eo ((S.le kp eo (S.up l)).addFro (.int c tk2)) hi kd fun h'' oa'' tk' S'' => qn _ oa'' h'' tk' rfl S'')
theorem Tr1.iadd {x : Str} {pp pos : Pos} {e : Expr} {a b : Int} {o : Bool} {Ψ : PostR} {i : Nat} (hi : xs[i]? = some x) (hd : ρ[i]? = some (some (o, .int a))) (kd : kindOk sc cm x) (h : Evs K p w n sc xs (shw ρ) e false (.int b)) (h2 : (x == ("__classdict__" : Str)) = false := by decide +kernel) :
    Tr1 K p w n sc cm xs ρ (.AugAssign (.Name x pp) .Add e pos) (· = ρ.set i (some (false, .int (a + b)))) Ψ :=
  .aug (fun _ _ _ _ _ _ q => P.iadd_int (q _)) hi hd kd h h2
theorem Tr1.isub {x : Str} {pp pos : Pos} {e : Expr} {a b : Int} {o : Bool} {Ψ : PostR} {i : Nat} (hi : xs[i]? = some x) (hd : ρ[i]? = some (some (o, .int a))) (kd : kindOk sc cm x) (h : Evs K p w n sc xs (shw ρ) e false (.int b)) (h2 : (x == ("__classdict__" : Str)) = false := by decide +kernel) :
    Tr1 K p w n sc cm xs ρ (.AugAssign (.Name x pp) .Sub e pos) (· = ρ.set i (some (false, .int (a - b)))) Ψ :=
  .aug (fun _ _ _ _ _ _ q => P.isub_int (q _)) hi hd kd h h2

/-! if, while, return -/
theorem Tr1.ife {t : Expr} {body orelse : List Stmt} {pos : Pos} {b : Bool} {Φ : PostN} {Ψ : PostR} (h : Evt K p w n sc xs (shw ρ) t b) (h1 : b = true → Tr K p w n sc cm xs ρ body Φ Ψ) (h2 : b = false → Tr K p w n sc cm xs ρ orelse Φ Ψ) : Tr1 K p w n sc cm xs ρ (.If t body orelse pos) Φ Ψ :=
  fun A E s KP Y env oa Q r eo kp S qn qr => wpAny_If (h A E s _ env _ r eo S.world S.liveF (S.shw' nmOk preRefl) fun h' tk l => by
    cases b with
    | true => exact h1 rfl A E { s with heap := h', toks := tk } KP Y env oa Q r eo kp (S.le kp eo (S.up l)) qn qr
    | false => exact h2 rfl A E { s with heap := h', toks := tk } KP Y env oa Q r eo kp (S.le kp eo (S.up l)) qn qr)
/-- a while by an invariant that a number measures -/
theorem Tr1.while {t : Expr} {body : List Stmt} {pos : Pos} {Φ : PostN} {Ψ : PostR} (I : Nat → PostN) (m : Nat) (hI : I m ρ)
    (turn : ∀ k ρ', I k ρ' → ∃ b, Evt K p w n sc xs (shw ρ') t b ∧ (b = true → Tr K p w n sc cm xs ρ' body (fun ρ'' => ∃ j, j < k ∧ I j ρ'') Ψ) ∧ (b = false → Φ ρ')) :
    Tr1 K p w n sc cm xs ρ (.While t body [] pos) Φ Ψ :=
  fun A E s KP Y env oa Q r eo kp S qn qr => wpAny_While (codeAny_whileLoop (fun k s' => ∃ ρ' oa' h' tk, s' = { s with heap := h', toks := tk } ∧ I k ρ' ∧ Sn K sc cm KP Y env xs ρ' oa' h')
    (fun k s' ⟨ρ', oa', h', tk, e, i, S'⟩ => by
      subst e
      obtain ⟨b, ht, h1, h2⟩ := turn k ρ' i
      refine ht A _ _ _ env _ r eo S'.world S'.liveF (S'.shw' nmOk preRefl) fun h'' tk' l => ?_
      have S'' := S'.le kp eo (S'.up l)
      cases b with
      | true =>
        simp only [if_true]
        refine h1 rfl A _ { s with heap := h'', toks := tk' } KP Y env oa' _ r eo kp S'' (fun ρ₂ oa₂ h₂ tk₂ ⟨j, hj, ij⟩ S₂ => ?_) (fun ρ₂ oa₂ fr d v h₂ tk₂ f S₂ r₂ f₂ => ?_)
        · exact ⟨j, hj, ρ₂, oa₂, h₂, tk₂, rfl, ij, S₂⟩
        · exact qr ρ₂ oa₂ fr d v h₂ tk₂ f S₂ r₂ f₂
      | false =>
        simp only [Bool.false_eq_true, if_false]
        exact wpAny_execs_nil (qn ρ' oa' h'' tk' (h2 rfl) S''))
    m ⟨ρ, oa, s.heap, s.toks, rfl, hI, S⟩)
theorem Tr1.retN {pos : Pos} {Φ : PostN} {Ψ : PostR} (h : Ψ ρ false .none) : Tr1 K p w n sc cm xs ρ (.Return none pos) Φ Ψ :=
  fun A E s KP Y env oa Q r eo kp S qn qr => wpAny_Return_none (qr ρ oa false .none .none s.heap s.toks h S .none ff)
/-- return e: e reads what is frozen -/
theorem Tr1.ret {e : Expr} {fr : Bool} {d : V} {pos : Pos} {Φ : PostN} {Ψ : PostR} (h : Evs K p w n sc xs (shw ρ) e fr d) (q : Ψ ρ false d) : Tr1 K p w n sc cm xs ρ (.Return (some e) pos) Φ Ψ :=
  fun A E s KP Y env oa Q r eo kp S qn qr => wpAny_Return_some (h.weak A E s _ env _ r eo S.world S.liveF (S.shw' nmOk preRefl) fun v h' tk l rp _ =>
    qr ρ oa false d v h' tk q (S.le kp eo (S.up l)) (rp.sub fun a z => .inl z) ff)
theorem kp_hp {KP : Addr → Obj → Prop} {Y : Addr → Prop} {env : Env} {oa : Nat → Addr} {h : Heap} {sl : List Slot} (kp : KPok KP) (S : Stt K sc cm KP Y env sl ρ oa h) {b : Addr} {o : Obj} (q : KP b o) : HP h b o := ⟨(kp b o q).1, (kp b o q).2, S.keep b o q⟩
/-- return of a new thing -/
theorem Tr1.retNew {e : Expr} {d : V} {pos : Pos} {Φ : PostN} {Ψ : PostR} (h : Evs K p w n sc xs (shw ρ) e true d) (q : Ψ ρ true d) : Tr1 K p w n sc cm xs ρ (.Return (some e) pos) Φ Ψ :=
  fun A E s KP Y env oa Q r eo kp S qn qr => wpAny_Return_some (h A E s _ env _ r eo S.world S.liveF (S.shw' nmOk preRefl) fun v h' tk l rp f =>
    qr ρ oa true d v h' tk q (S.le kp eo (S.up l)) (rp.sub fun a z => .inl z) fun _ => (f rfl).imp fun b o z => kp_hp kp S z)
theorem Holds.load {env : Env} {s : Shared} {x : Str} {v : Value} {M : Model} {A : Around} {E : Value → Shared → Prop} {Q : Value → Shared → Prop} (eo : EnvOk sc env) (hh : Holds sc env s.heap (.nm x) v) (hn : (x == ("__classdict__" : Str)) = false)
    (h : Q v s) : wpAny M A (loadName env x) Q E s := by
  have hk : env.scope.kind = .function := by rw [eo.sco]; exact eo.kd
  have kk : env.kindOf x = sc.names.lookup x := by unfold Env.kindOf; rw [eo.sco]
  rcases hh with ⟨a, m, n, e⟩ | ⟨a, c, e, n1, n2, i⟩
  · exact wpAny_loadName_local hk (kk.trans a) n e h
  · rcases a with a | a
    · exact wpAny_loadName_cell hk (kk.trans a) e i h
    · exact wpAny_loadName_free hk (kk.trans a) e i h hn
/-- return of a name that holds what is ours alone -/
theorem Tr1.retOwn {x : Str} {np pos : Pos} {d : V} {i : Nat} {Φ : PostN} {Ψ : PostR} (hi : xs[i]? = some x) (hd : ρ[i]? = some (some (true, d))) (q : Ψ ρ true d) (h1 : (x == ("__debug__" : Str)) = false := by decide +kernel) (h2 : (x == ("__classdict__" : Str)) = false := by decide +kernel) : Tr1 K p w n sc cm xs ρ (.Return (some (.Name x np)) pos) Φ Ψ :=
  fun A E s KP Y env oa Q r eo kp S qn qr => by
    obtain ⟨v, hh, ow⟩ := S.own i _ d (nmOk i x hi) hd
    have off := S.off i d hd
    have rv : Rep s.heap Y v d := ow.rep (fun _ z => .inl z) ⟨off.2.1, off.2.2.1, off.2.2.2.1⟩
    have fv : FreshV KP s.heap v := by
      cases ow with
      | list a1 _ => exact ⟨_, rfl, fun C dx e => (by rw [a1] at e; cases e), fun o e _ => (by rw [a1] at e; cases e; exact ⟨off.2.2.2.2.2, rfl⟩)⟩
      | inst b1 b2 a1 _ _ => exact ⟨_, rfl, fun C dx e => (by rw [b1] at e; cases e; exact off.2.2.2.2.2), fun o e c => (by rw [b1] at e; cases e; cases c)⟩
      | idict a1 a2 _ => exact ⟨_, rfl, fun C dx e => (by rw [a1] at e; cases e; have := a2.cls.1; cases this), fun o e c => (by rw [a1] at e; cases e; rw [a2.cls.1] at c; simp at c)⟩
    exact wpAny_Return_some (wpAny_Name (hh.load eo h2 (qr ρ oa true d v s.heap s.toks q S rv fun _ => fv)) h1)
end Mine

-- B9
namespace Mine
variable {K : Frag} {p : Program} {w : World} {n : Nat} {sc : Scope} {cm : Bool} {xs : List Str} {ρ : List Ent}

theorem bindL_miss {kd : Str → Option NameKind} {x : Str} : ∀ (binds : List (Str × Value)) (m : Str → Option Value), x ∉ binds.map (·.1) → bindL kd binds m x = m x
  | [], _, _ => rfl
  | (y, v) :: r, m, h => by
    have h1 : x ≠ y := fun e => h (by rw [e]; exact List.mem_cons_self ..)
    have h2 : x ∉ r.map (·.1) := fun e => h (List.mem_cons_of_mem _ e)
    rw [bindL, bindL_miss r _ h2]
    split
    · exact if_neg h1
    · rfl
theorem bindL_get {kd : Str → Option NameKind} {x : Str} {v : Value} (hk : kd x = some .local) : ∀ (binds : List (Str × Value)) (m : Str → Option Value), (binds.map (·.1)).Nodup → (x, v) ∈ binds → bindL kd binds m x = some v
  | (y, u) :: r, m, nd, h => by
    rw [List.map_cons, List.nodup_cons] at nd
    rcases List.mem_cons.mp h with h | h
    · cases h
      rw [bindL, bindL_miss r _ nd.1, if_pos hk, if_pos rfl]
    · rw [bindL]; exact bindL_get hk r _ nd.2 h
theorem bindC_miss {kd : Str → Option NameKind} {x : Str} : ∀ (binds : List (Str × Value)) (m : Str → Option Value), x ∉ binds.map (·.1) → bindC kd binds m x = m x
  | [], _, _ => rfl
  | (y, v) :: r, m, h => by
    have h1 : x ≠ y := fun e => h (by rw [e]; exact List.mem_cons_self ..)
    have h2 : x ∉ r.map (·.1) := fun e => h (List.mem_cons_of_mem _ e)
    rw [bindC, bindC_miss r _ h2]
    split
    · rfl
    · exact if_neg h1
theorem bindC_get {kd : Str → Option NameKind} {x : Str} {v : Value} (hk : kd x ≠ some .local) : ∀ (binds : List (Str × Value)) (m : Str → Option Value), (binds.map (·.1)).Nodup → (x, v) ∈ binds → bindC kd binds m x = some v
  | (y, u) :: r, m, nd, h => by
    rw [List.map_cons, List.nodup_cons] at nd
    rcases List.mem_cons.mp h with h | h
    · cases h
      rw [bindC, bindC_miss r _ nd.1, if_neg hk, if_pos rfl]
    · rw [bindC]; exact bindC_get hk r _ nd.2 h

/-- a def of the text's top: what is looked up -/
structure DefOk (K : Frag) (fa : Addr) (fd : FuncData) (ps : List Str) (body : List Stmt) : Prop where
  lk : ∃ oc od osl, K.lookup fa = some ⟨oc, od, .func fd, osl⟩
  code : codeIn K fd.code fd.qualname = true
  body : fd.body = .stmts body
  gl : fd.globals = mainGlobals
  bi : fd.builtins = builtinsNs
  kd : fd.scope.kind = .function
  co : fd.scope.isCoroutine = false
  ge : fd.scope.isGenerator = false
  cl : fd.closure = []
  cq : ∀ q, codeOf fd.scope = some q → fd.code = .ref q.1 ∧ fd.qualname ++ ".<locals>." = q.2
  bind : ∀ vs : List Value, vs.length = ps.length → bindArgs fd ⟨vs, []⟩ = pure (ps.zip vs)

noncomputable def entry (args : List V) (m : Nat) : List Ent := args.map (fun d => some (false, d)) ++ List.replicate m none
theorem entry_get {args : List V} {m i : Nat} {q : Bool × V} (h : (entry args m)[i]? = some (some q)) : i < args.length ∧ ∃ d, args[i]? = some d ∧ q = (false, d) := by
  unfold entry at h
  rw [List.getElem?_append] at h
  split at h
  · rename_i hl
    rw [List.length_map] at hl
    rw [List.getElem?_map, Option.map_eq_some_iff] at h
    obtain ⟨d, h1, h2⟩ := h
    cases h2
    exact ⟨hl, d, h1, rfl⟩
  · rw [List.getElem?_replicate] at h
    split at h <;> cases h

theorem Rm.deeper {A : Around} {env : Env} (r : Rm (n + 1) A) : Rm n (A.deeper env) := by
  refine ⟨r.hd, r.gs, ?_, ?_⟩
  · show A.depth + 1 + 3 * n ≤ 900
    have := r.dp; omega
  · show A.units + 3 + 30 * n + 200 ≤ 9900
    have := r.un; omega
theorem Rm.room {A : Around} (r : Rm n A) : A.depth < recursionLimit := by
  have := r.dp
  have e : recursionLimit = 1000 := rfl
  omega

theorem ctr_of_tr {fa : Addr} {fd : FuncData} {ps rest : List Str} {body : List Stmt} {args : List V} {fr : Bool} {d : V} (D : DefOk K fa fd ps body) (hx : xs = ps ++ rest) (nd : xs.Nodup) (hl : args.length = ps.length)
    (hp : ∀ x ∈ ps, fd.scope.names.lookup x = some .local ∨ fd.scope.names.lookup x = some .cell)
    (hcm : codeOf fd.scope = none ∨ cm = false)
    (T : Tr K p w n fd.scope cm xs (entry args rest.length) body (fun _ => d = .none ∧ fr = false) (fun _ f e => e = d ∧ (fr = true → f = true))) : Ctr K p w (n + 1) (.ref fa) args fr d :=
  fun A E s X vs Q r wd lv rp po => by
    obtain ⟨oc, od, osl, lk⟩ := D.lk
    have hvl : vs.length = ps.length := rp.length.trans hl
    have nps : ((ps.zip vs).map (·.1)).Nodup := by
      rw [List.map_fst_zip (by omega)]
      exact (hx ▸ nd).sublist (List.sublist_append_left ..)
    have lt365 : 365 < s.heap.objs.size := by
      obtain ⟨o, e⟩ := Option.isSome_iff_exists.mp lv.b.1
      exact Heap.lt_size e
    have lt360 : 360 < s.heap.objs.size := by omega
    have none_ge : ∀ a, s.heap.objs.size ≤ a → s.heap.get? a = none := fun a h => by
      cases e : s.heap.get? a with
      | none => rfl
      | some o => exact absurd (Heap.lt_size e) (Nat.not_lt.mpr h)
    have knone : ∀ a, s.heap.objs.size ≤ a → K.lookup a = none := fun a h => by
      cases e : K.lookup a with
      | none => rfl
      | some o => have := wd.k a o e; rw [none_ge a h] at this; exact nn this
    refine wpAny_call (codeAny_call_cells r.room (wd.k _ _ lk) rfl wd.lim (codeRec_of wd.k D.code) D.body (D.bind vs hvl) D.cl (fun x hx' => ?_) (fun s₁ I => ?_) D.co D.ge D.kd)
    · have hm : x.1 ∈ ps := by
        obtain ⟨a, b⟩ := x
        exact (List.of_mem_zip hx').1
      rcases hp x.1 hm with q | q
      · exact .inl q
      · exact .inr ⟨q, cellsFrom_some _ _ _ (.inl q)⟩
    · obtain ⟨h₁, tk₁, rfl⟩ := I.toInCall.same
      have hL : (callEnvC fd s.heap.objs.size fa).locals = s.heap.objs.size := rfl
      have hC : (callEnvC fd s.heap.objs.size fa).cells = cellsFrom (s.heap.objs.size + 1) fd.scope.names [] := rfl
      have l₁ : Le X s.heap h₁ := .of_keep I.toInCall.keep
      have eo : EnvOk fd.scope (callEnvC fd s.heap.objs.size fa) := ⟨rfl, D.gl, D.bi, D.kd, by rw [hL]; exact Nat.ne_of_gt lt365, by rw [hL]; exact Nat.ne_of_gt lt360, D.cq⟩
      have ab : ∀ y c, (callEnvC fd s.heap.objs.size fa).cells.lookup y = some c → s.heap.objs.size < c := fun y c e => I.above y c (mem_of_lookup e)
      have fage : ∀ a, Fa cm (callEnvC fd s.heap.objs.size fa) a → s.heap.objs.size ≤ a := fun a z => by
        rcases z with z | ⟨_, y, z⟩
        · rw [z, hL]; exact Nat.le_refl _
        · exact Nat.le_of_lt (ab y a z)
      have S : Sn K fd.scope cm (HP s.heap) X (callEnvC fd s.heap.objs.size fa) xs (entry args rest.length) (fun _ => 0) h₁ := by
        refine ⟨fun b o q => l₁.keep b o q.1 q.2.1 q.2.2, fun h' k => wd.keeps fun b o n1 n2 e => k b o ⟨n1, n2, e⟩, lv.b.le l₁, fun a z => ?_, ⟨_, I.toInCall.ns⟩, fun i x d' q1 q2 => ?_, fun i x d' q1 q2 => ?_, ?_, fun i j x q1 q2 => ?_, fun x q => ?_, ⟨fun y c e z => ?_, fun y z c e1 e2 => name_of_addr I.apart (mem_of_lookup e1) (mem_of_lookup e2)⟩, fun i d' q => ?_, fun i j d' e' q => ?_, ?_, fun q y c e => ?_⟩
        · have ge := fage a z
          refine ⟨?_, fun y => ?_, Nat.ne_of_gt (Nat.lt_of_lt_of_le lt365 ge), Nat.ne_of_gt (Nat.lt_of_lt_of_le lt360 ge), knone a ge, fun o q => ?_⟩
          · rcases z with z | ⟨_, y, z⟩
            · obtain ⟨o, _, _, e, _⟩ := I.toInCall.ns
              rw [z]; exact (by rw [e]; rfl)
            · obtain ⟨o, e, _⟩ := I.cell y a z
              exact (by rw [e]; rfl)
          · have := (lv.b.2.2 a y).1
            rw [none_ge a ge] at this; exact ff this
          · have := q.2.2
            rw [none_ge a ge] at this; exact nn this
        · obtain ⟨hi, d₂, e1, e2⟩ := entry_get q2
          cases e2
          rw [List.getElem?_map, Option.map_eq_some_iff] at q1
          obtain ⟨x', e3, rfl⟩ := q1
          have e4 : ps[i]? = some x' := by
            rw [hx, List.getElem?_append_left (by omega)] at e3
            exact e3
          obtain ⟨v, e5, rv⟩ := rp.get i _ e1
          have hm : (x', v) ∈ ps.zip vs := by
            refine List.mem_of_getElem? (i := i) ?_
            rw [List.getElem?_zip_eq_some]
            exact ⟨e4, e5⟩
          refine ⟨v, ?_, ((rv.fresh (Z := fun a => s.heap.objs.size ≤ a) none_ge).leZ l₁).sub fun a z => ?_⟩
          · rcases hp x' (List.mem_of_getElem? e4) with k | k
            · exact .inl ⟨k, _, I.toInCall.ns, bindL_get k _ _ nps hm⟩
            · have hs := cellsFrom_some (x := x') fd.scope.names (s.heap.objs.size + 1) [] (.inl k)
              obtain ⟨c, hc⟩ := Option.isSome_iff_exists.mp hs
              have lt := ab x' c hc
              refine .inr ⟨.inl k, c, hc, Nat.ne_of_gt (Nat.lt_trans lt365 lt), Nat.ne_of_gt (Nat.lt_trans lt360 lt), ?_⟩
              have := I.cell x' c hc
              rw [bindC_get (kd := (callEnvC fd s.heap.objs.size fa).kindOf) (x := x') (v := v) (by show fd.scope.names.lookup x' ≠ _; rw [k]; simp) _ _ nps hm] at this
              exact this
          · rcases z with z | z | ⟨_, _, z, _⟩
            · exact .inl z
            · exact .inr (fage a z)
            · obtain ⟨_, _, _, z⟩ := entry_get z; cases z
        · obtain ⟨_, _, _, z⟩ := entry_get q2; cases z
        · rw [List.length_map, hx]; simp [entry, hl]
        · rw [List.getElem?_map, Option.map_eq_some_iff] at q1 q2
          obtain ⟨a, a1, a2⟩ := q1
          obtain ⟨b, b1, b2⟩ := q2
          cases a2; cases b2
          exact (List.getElem?_inj (List.getElem?_eq_some_iff.mp a1).1 nd).mp (a1.trans b1.symm)
        · have hs := cellsFrom_some (x := x) fd.scope.names (s.heap.objs.size + 1) [] (.inl q)
          obtain ⟨c, hc⟩ := Option.isSome_iff_exists.mp hs
          have lt := ab x c hc
          exact ⟨c, _, hc, Nat.ne_of_gt (Nat.lt_trans lt365 lt), Nat.ne_of_gt (Nat.lt_trans lt360 lt), I.cell x c hc⟩
        · have := ab y c e
          rw [z, hL] at this
          exact Nat.lt_irrefl _ this
        · obtain ⟨_, _, _, z⟩ := entry_get q; cases z
        · obtain ⟨_, _, _, z⟩ := entry_get q; cases z
        · refine lv.t.imp (fun o e => I.toInCall.keep _ o e) (fun o e => I.toInCall.keep _ o e) fun b o _ e _ av => ⟨I.toInCall.keep b o e, fun z => ?_, av.2⟩
          rcases z with z | z | ⟨_, _, z, _⟩
          · exact av.1 z
          · have := fage b z; rw [none_ge b this] at e; exact nn e
          · obtain ⟨_, _, _, z⟩ := entry_get z; cases z
        · obtain ⟨oo, ho, _⟩ := I.cell y c e
          refine ⟨by rw [ho]; rfl, fun z => ?_⟩
          rcases z with z | z | ⟨_, _, z, _⟩
          · have := (lv.b.2.2 c z).1; rw [none_ge c (Nat.le_of_lt (ab y c e))] at this; exact ff this
          · rcases z with z | ⟨z, _⟩
            · have := ab y c e; rw [z, hL] at this; exact Nat.lt_irrefl _ this
            · rcases hcm with hcm | hcm
              · exact q hcm
              · rw [hcm] at z; exact ff z
          · obtain ⟨_, _, _, z⟩ := entry_get z; cases z
      have back : ∀ (h' : Heap) (ρ' : List Ent) (oa' : Nat → Addr), Sn K fd.scope cm (HP s.heap) X (callEnvC fd s.heap.objs.size fa) xs ρ' oa' h' → Le X s.heap h' := fun h' ρ' oa' S' => ⟨fun b o n1 n2 e => S'.keep b o ⟨n1, n2, e⟩, fun b e => by
        by_cases h1 : b = 365
        · rw [h1]; exact S'.live.1
        · by_cases h2 : b = 360
          · rw [h2]; exact S'.live.2.1
          · obtain ⟨o, q⟩ := Option.isSome_iff_exists.mp e
            rw [S'.keep b o ⟨h1, h2, q⟩]; rfl, fun _ => S'.tabs.mono fun _ z => .inl z⟩
      refine T _ _ { s with heap := h₁, toks := tk₁ } (HP s.heap) X _ _ _ r.deeper eo (fun _ _ q => ⟨q.1, q.2.1⟩) S (fun ρ' oa' h' tk f S' => ?_) (fun ρ' oa' f e v h' tk q S' rv fv => ?_)
      · obtain ⟨rfl, rfl⟩ := f
        exact po .none h' tk (back h' ρ' oa' S') .none ff
      · obtain ⟨rfl, hf⟩ := q
        exact po v h' tk (back h' ρ' oa' S') rv fun e => fv (hf e)
end Mine

-- B10
namespace Mine
variable {K : Frag} {p : Program} {w : World} {n : Nat} {sc : Scope} {cm : Bool} {xs : List Str} {ρ : List Ent}

/-- a store: the name's place, the name, how it is done, the temporary's place, its value, what is known -/
structure Sto where
  i : Nat
  x : Str
  op : Value → Sem Unit
  j : Nat
  v : Value
  e : Bool × V
noncomputable def runSto (r : List Ent) : List Sto → List Ent
  | [] => r
  | t :: l => runSto ((r.set t.i (some t.e)).set t.j none) l
/-- an operation that stores a name -/
noncomputable def Stores (p : Program) (w : World) (env : Env) (x : Str) (op : Value → Sem Unit) : Prop := ∀ (A : Around) (E : Value → Shared → Prop) (v : Value) (s : Shared) (Q : Unit → Shared → Prop), wpAny (model p w) A (storeName env x v) Q E s → wpAny (model p w) A (op v) Q E s
theorem wp_stores {KP : Addr → Obj → Prop} {Y : Addr → Prop} {env : Env} {sl : List Slot} {A : Around} {E : Value → Shared → Prop} (nx : Nat)
    (eo : EnvOk sc env) : ∀ (l : List Sto) (ρ : List Ent) (oa : Nat → Addr) (s : Shared) (Q : Unit → Shared → Prop), Stt K sc cm KP Y env sl ρ oa s.heap →
    (∀ t ∈ l, Stores p w env t.x t.op ∧ sl[t.i]? = some (.nm t.x) ∧ sl[t.j]? = some (.val t.v) ∧ kindOk sc cm t.x ∧ t.i < nx ∧ nx ≤ t.j ∧ ρ[t.j]? = some (some t.e)) → (l.map (·.j)).Nodup →
    (∀ oa' h' tk, Stt K sc cm KP Y env sl (runSto ρ l) oa' h' → Q () { s with heap := h', toks := tk }) →
    wpAny (model p w) A (assignInOrder (l.map (·.op)) (l.map (·.v))) Q E s
  | [], ρ, oa, s, Q, S, _, _, q => assignInOrder_nil (q oa s.heap s.toks S)
  | t :: l, ρ, oa, s, Q, S, hl, nd, q => by
    obtain ⟨h0, h1, h2, h3, h4, h5, h6⟩ := hl _ (List.mem_cons_self ..)
    rw [List.map_cons, List.nodup_cons] at nd
    refine assignInOrder_cons (h0 _ _ t.v s _ (wp_store S eo h1 h2 h6 h3 fun h' oa' tk S' => ?_))
    refine wp_stores nx eo l _ oa' { s with heap := h', toks := tk } Q S' (fun u hu => ?_) nd.2 fun oa'' h'' tk' S'' => q oa'' h'' tk' S''
    obtain ⟨g0, g1, g2, g3, g4, g5, g6⟩ := hl u (List.mem_cons_of_mem _ hu)
    refine ⟨g0, g1, g2, g3, g4, g5, ?_⟩
    have n1 : t.j ≠ u.j := fun z => nd.1 (z ▸ List.mem_map_of_mem hu)
    have n2 : t.i ≠ u.j := fun z => by omega
    rw [List.getElem?_set_ne n1, List.getElem?_set_ne n2]
    exact g6

theorem Stt.addMany {KP : Addr → Obj → Prop} {Y : Addr → Prop} {env : Env} {oa : Nat → Addr} {h : Heap} {vs : List Value} : ∀ {ds : List V} {sl : List Slot} {ρ : List Ent}, Stt K sc cm KP Y env sl ρ oa h → RepL h (Xs cm Y env ρ oa) vs ds →
    Stt K sc cm KP Y env (sl ++ vs.map .val) (ρ ++ ds.map fun d => some (false, d)) oa h := by
  induction vs with
  | nil => intro ds sl ρ S r; cases r; rw [List.map_nil, List.map_nil, List.append_nil, List.append_nil]; exact S
  | cons v vs ih =>
    intro ds sl ρ S r
    cases r with
    | cons a r =>
      have := ih (S.addFro a) (r.sub fun b q => q.imp_right fun q => q.imp_right fun ⟨i, d', e, z⟩ => ⟨i, d', (by
        rw [List.getElem?_append] at e
        split at e
        · exact e
        · rw [List.getElem?_singleton] at e
          split at e <;> cases e), z⟩)
      rw [List.append_assoc, List.append_assoc] at this; exact this

/-- the places of names, with what is stored -/
noncomputable def setAll (r : List Ent) : List (Nat × (Bool × V)) → List Ent
  | [] => r
  | q :: l => setAll (r.set q.1 (some q.2)) l
structure Tgt where
  i : Nat
  x : Str
  op : Value → Sem Unit
noncomputable def stoOf (m : Nat) : List Tgt → List Value → List (Bool × V) → List Sto
  | t :: ts, v :: vs, e :: es => ⟨t.i, t.x, t.op, m, v, e⟩ :: stoOf (m + 1) ts vs es
  | _, _, _ => []
theorem stoOf_mem {t : Sto} : ∀ {m : Nat} {ts : List Tgt} {vs : List Value} {es : List (Bool × V)}, t ∈ stoOf m ts vs es → ∃ k, ts[k]? = some ⟨t.i, t.x, t.op⟩ ∧ vs[k]? = some t.v ∧ es[k]? = some t.e ∧ t.j = m + k
  | m, u :: ts, v :: vs, e :: es, h => by
    rw [stoOf] at h
    rcases List.mem_cons.mp h with h | h
    · subst h; exact ⟨0, rfl, rfl, rfl, rfl⟩
    · obtain ⟨k, a, b, c, d⟩ := stoOf_mem h
      exact ⟨k + 1, by simpa using a, by simpa using b, by simpa using c, by omega⟩
theorem stoOf_nodup : ∀ (m : Nat) (ts : List Tgt) (vs : List Value) (es : List (Bool × V)), ((stoOf m ts vs es).map (·.j)).Nodup
  | m, u :: ts, v :: vs, e :: es => by
    rw [stoOf, List.map_cons, List.nodup_cons]
    refine ⟨fun h => ?_, stoOf_nodup (m + 1) ts vs es⟩
    obtain ⟨t, ht, e⟩ := List.mem_map.mp h
    obtain ⟨k, _, _, _, d⟩ := stoOf_mem ht
    have : t.j = m := e
    omega
  | _, [], _, _ => by simp [stoOf]
  | _, _ :: _, [], _ => by simp [stoOf]
  | _, _ :: _, _ :: _, [] => by simp [stoOf]
theorem stoOf_names : ∀ (m : Nat) (ts : List Tgt) (vs : List Value) (es : List (Bool × V)), ts.length = vs.length → vs.length = es.length → (stoOf m ts vs es).map (·.op) = ts.map (·.op) ∧ (stoOf m ts vs es).map (·.v) = vs
  | m, u :: ts, v :: vs, e :: es, h1, h2 => by
    obtain ⟨a, b⟩ := stoOf_names (m + 1) ts vs es (by simpa using h1) (by simpa using h2)
    exact ⟨by simp only [stoOf, List.map_cons, a], by simp only [stoOf, List.map_cons, b]⟩
  | _, [], [], [], _, _ => ⟨rfl, rfl⟩
  | _, [], _ :: _, _, h, _ => by cases h
  | _, _ :: _, [], _, h, _ => by cases h
  | _, [], [], _ :: _, _, h => by cases h
  | _, _ :: _, _ :: _, [], _, h => by cases h
theorem setAll_length : ∀ (l : List (Nat × (Bool × V))) (r : List Ent), (setAll r l).length = r.length
  | [], _ => rfl
  | q :: l, r => by rw [setAll, setAll_length l, List.length_set]
/-- the stores' end: the names as told, the temporaries gone -/
theorem runSto_eq (nx : Nat) : ∀ (ts : List Tgt) (vs : List Value) (es : List (Bool × V)) (ρ : List Ent) (k : Nat), ρ.length = nx → ts.length = vs.length → vs.length = es.length → (∀ t ∈ ts, t.i < nx) →
    runSto (ρ ++ (List.replicate k none ++ es.map some)) (stoOf (nx + k) ts vs es) = setAll ρ ((ts.map (·.i)).zip es) ++ List.replicate (k + es.length) none
  | [], [], [], ρ, k, _, _, _, _ => by simp [stoOf, runSto, setAll]
  | u :: ts, v :: vs, e :: es, ρ, k, h1, h2, h3, h4 => by
    have hi : u.i < nx := h4 _ (List.mem_cons_self ..)
    have e1 : ((ρ ++ (List.replicate k none ++ (e :: es).map some)).set u.i (some e)).set (nx + k) none = ρ.set u.i (some e) ++ (List.replicate (k + 1) none ++ es.map some) := by
      rw [List.set_append_left _ _ (by rw [h1]; exact hi), List.set_append_right _ _ (by rw [List.length_set, h1]; omega), List.length_set, h1]
      rw [show nx + k - nx = k by omega, List.set_append_right _ _ (by simp), List.length_replicate, Nat.sub_self, List.map_cons, List.set_cons_zero, List.replicate_succ', List.append_assoc]
      rfl
    show runSto (((ρ ++ (List.replicate k none ++ (e :: es).map some)).set u.i (some e)).set (nx + k) none) (stoOf (nx + k + 1) ts vs es) = setAll (ρ.set u.i (some e)) ((ts.map (·.i)).zip es) ++ _
    rw [e1, show nx + k + 1 = nx + (k + 1) by omega, runSto_eq nx ts vs es (ρ.set u.i (some e)) (k + 1) (by rw [List.length_set]; exact h1) (by simpa using h2) (by simpa using h3) fun t ht => h4 t (List.mem_cons_of_mem _ ht)]
    rw [List.length_cons, show k + 1 + es.length = k + (es.length + 1) by omega]
  | [], _ :: _, _, _, _, _, h, _, _ => by cases h
  | _ :: _, [], _, _, _, _, h, _, _ => by cases h
  | [], [], _ :: _, _, _, _, _, h, _ => by cases h
  | _ :: _, _ :: _, [], _, _, _, _, h, _ => by cases h
theorem wp_storeMany {KP : Addr → Obj → Prop} {Y : Addr → Prop} {env : Env} {A : Around} {E : Value → Shared → Prop} {s : Shared} {oa : Nat → Addr} {Q : Unit → Shared → Prop}
    (eo : EnvOk sc env) {ts : List Tgt} {vs : List Value} {es : List (Bool × V)} (h1 : ts.length = vs.length) (h2 : vs.length = es.length) (ht : ∀ t ∈ ts, Stores p w env t.x t.op ∧ xs[t.i]? = some t.x ∧ kindOk sc cm t.x)
    (S : Stt K sc cm KP Y env (xs.map .nm ++ vs.map .val) (ρ ++ es.map some) oa s.heap) (hρ : ρ.length = xs.length)
    (q : ∀ oa' h' tk, Sn K sc cm KP Y env xs (setAll ρ ((ts.map (·.i)).zip es)) oa' h' → Q () { s with heap := h', toks := tk }) :
    wpAny (model p w) A (assignInOrder (ts.map (·.op)) vs) Q E s := by
  obtain ⟨e1, e2⟩ := stoOf_names xs.length ts vs es h1 h2
  rw [← e1]
  have := wp_stores (K := K) (p := p) (w := w) (sc := sc) (cm := cm) (A := A) (E := E) xs.length eo (stoOf xs.length ts vs es) (ρ ++ es.map some) oa s Q S (fun t ht' => ?_) (stoOf_nodup ..) fun oa' h' tk S' => ?_
  · rw [e2] at this; exact this
  · obtain ⟨k, k1, k2, k3, k4⟩ := stoOf_mem ht'
    obtain ⟨g0, g1, g2⟩ := ht _ (List.mem_of_getElem? k1)
    have hlt : t.i < xs.length := (List.getElem?_eq_some_iff.mp g1).1
    refine ⟨g0, ?_, ?_, g2, hlt, by omega, ?_⟩
    · rw [List.getElem?_append_left (by simpa using hlt), List.getElem?_map, g1]; rfl
    · rw [List.getElem?_append_right (by rw [List.length_map]; omega), List.length_map, k4, Nat.add_sub_cancel_left, List.getElem?_map, k2]; rfl
    · rw [List.getElem?_append_right (by rw [hρ]; omega), hρ, k4, Nat.add_sub_cancel_left, List.getElem?_map, k3]; rfl
  · have e3 := runSto_eq xs.length ts vs es ρ 0 hρ h1 h2 fun t ht' => (List.getElem?_eq_some_iff.mp (ht t ht').2.1).1
    rw [List.replicate_zero, List.nil_append] at e3
    rw [show xs.length + 0 = xs.length from rfl] at e3
    rw [e3] at S'
    refine q oa' h' tk ?_
    have hl : (setAll ρ ((ts.map (·.i)).zip es)).length = xs.length := (setAll_length _ _).trans hρ
    have S2 := S'.sub (ρ' := setAll ρ ((ts.map (·.i)).zip es)) (m := xs.length) ⟨by simp, fun k o d z => .inl ?_⟩ hl
    · rw [List.take_append_of_le_length (by simp), List.take_of_length_le (by simp)] at S2
      exact S2
    · have hk := (List.getElem?_eq_some_iff.mp z).1
      rw [List.getElem?_append_left hk]; exact z

/-! targets -/
noncomputable def AsgTo (K : Frag) (p : Program) (w : World) (n : Nat) (sc : Scope) (cm : Bool) (xs : List Str) (t : Expr) (d : V) (ρ ρ' : List Ent) : Prop :=
  ∀ (A : Around) (E : Value → Shared → Prop) (s : Shared) (KP : Addr → Obj → Prop) (Y : Addr → Prop) (env : Env) (oa : Nat → Addr) (v : Value) (Q : Unit → Shared → Prop),
    Rm n A → EnvOk sc env → KPok KP → Sn K sc cm KP Y env xs ρ oa s.heap → Rep s.heap (Xs cm Y env ρ oa) v d →
    (∀ oa' h' tk, Sn K sc cm KP Y env xs ρ' oa' h' → Q () { s with heap := h', toks := tk }) → wpAny (model p w) A (assign t env v) Q E s
theorem AsgTo.name {x : Str} {pp : Pos} {d : V} {i : Nat} (hi : xs[i]? = some x) (kd : kindOk sc cm x) : AsgTo K p w n sc cm xs (.Name x pp) d ρ (ρ.set i (some (false, d))) :=
  fun A E s KP Y env oa v Q r eo kp S rv q => wpAny_assign_Name (stores_one eo (S.addFro rv) hi kd fun h' oa' tk S' => q oa' h' tk S')
/-- a target that is a name -/
structure NmT where
  i : Nat
  x : Str
  pp : Pos
noncomputable def NmT.e (t : NmT) : Expr := .Name t.x t.pp
noncomputable def NmT.t (env : Env) (t : NmT) : Tgt := ⟨t.i, t.x, assign (.Name t.x t.pp) env⟩
theorem assignEach_names {env : Env} : ∀ ts : List NmT, (assignEach (ts.map NmT.e) env) = ts.map fun t => (false, assign (.Name t.x t.pp) env)
  | [] => rfl
  | t :: ts => by
    rw [List.map_cons, List.map_cons, ← assignEach_names ts]; rfl
theorem unpack_names {KP : Addr → Obj → Prop} {Y : Addr → Prop} {env : Env} {A : Around} {E : Value → Shared → Prop} {s : Shared} {oa : Nat → Addr} {Q : Unit → Shared → Prop} (hh : A.handled = none) (eo : EnvOk sc env) (kp : KPok KP) {T : Addr} {items : Array Value} {es : List (Bool × V)} (hT : IsTup s.heap T items)
    (ts : List NmT) (h1 : ts.length = items.size) (h2 : items.size = es.length) (ht : ∀ t ∈ ts, xs[t.i]? = some t.x ∧ kindOk sc cm t.x)
    (S : Stt K sc cm KP Y env (xs.map .nm ++ items.toList.map .val) (ρ ++ es.map some) oa s.heap) (hρ : ρ.length = xs.length)
    (q : ∀ oa' h' tk, Sn K sc cm KP Y env xs (setAll ρ ((ts.map (·.i)).zip es)) oa' h' → Q () { s with heap := h', toks := tk }) :
    wpAny (model p w) A (unpack (.ref T) (assignEach (ts.map NmT.e) env)) Q E s := by
  rw [assignEach_names]
  refine unpack_tuple hh hT (by rw [List.length_map]; exact h1) ?_ fun h' ex => ?_
  · clear h1 ht q
    rw [List.findIdx?_eq_none_iff]
    intro x hx
    obtain ⟨t, _, rfl⟩ := List.mem_map.mp hx
    rfl
  · have l : Le (Xs cm Y env (ρ ++ es.map some) oa) s.heap h' := .of_keep fun b o e => ex b o (fun z => by rw [z, get?_size] at e; exact nn e) e
    have key := wp_storeMany (K := K) (p := p) (w := w) (sc := sc) (cm := cm) (xs := xs) (ρ := ρ) (A := A) (E := E) (s := { s with heap := h' }) (KP := KP) (Y := Y) (oa := oa) (Q := Q) eo (ts := ts.map (NmT.t env)) (vs := items.toList) (es := es) (by rw [List.length_map, h1, Array.length_toList]) (by rw [Array.length_toList, h2])
      (fun t ht' => by
        obtain ⟨t', ht2, rfl⟩ := List.mem_map.mp ht'
        exact ⟨fun A E v s Q h => wpAny_assign_Name h, ht t' ht2⟩) (S.le kp eo l) hρ (fun oa' h'' tk S'' => q oa' h'' tk (by
          rw [List.map_map] at S''
          exact S''))
    rw [List.map_map] at key ⊢
    exact key
theorem AsgTo.tuple (ts : List NmT) {k : Nat} {tp : Pos} {ds : List V} (hl : ts.length = ds.length) (ht : ∀ t ∈ ts, xs[t.i]? = some t.x ∧ kindOk sc cm t.x) :
    AsgTo K p w n sc cm xs (.Tuple (ts.map NmT.e) k tp) (.tuple ds) ρ (setAll ρ ((ts.map (·.i)).zip (ds.map fun d => (false, d)))) :=
  fun A E s KP Y env oa v Q r eo kp S rv q => by
    cases rv using Rep.casesTuple with
    | tuple a b c e f =>
      have hz := f.length
      rw [Array.length_toList] at hz
      show wpAny _ _ (do standAt tp; unpack _ (assignEach (ts.map NmT.e) env)) _ _ _
      refine wpAny_bind (wpAny_standAt ?_)
      refine unpack_names (xs := xs) (ρ := ρ) (oa := oa) r.hd eo kp ⟨_, a, b, _, c⟩ ts (by rw [hz, hl]) (es := ds.map fun d => (false, d)) (by rw [List.length_map]; exact hz) ht ?_ (by have := S.dom; simpa using this) q
      have := S.addMany f
      rw [List.map_map]; exact this
end Mine

-- B11
namespace Mine
variable {K : Frag} {p : Program} {w : World} {n : Nat} {sc : Scope} {cm : Bool} {xs : List Str} {ρ : List Ent}

section
variable {KP : Addr → Obj → Prop} {Y : Addr → Prop} {env : Env} {sl : List Slot} {oa : Nat → Addr} {h h' : Heap} {wr : List Addr}
/-- what must stay and what is forbidden, told anew -/
theorem Stt.re (S : Stt K sc cm KP Y env sl ρ oa h) {KP2 : Addr → Obj → Prop} {Y2 : Addr → Prop} (k : ∀ b o, KP2 b o → h.get? b = some o) (wd : ∀ h', (∀ b o, KP2 b o → h'.get? b = some o) → Wd K h')
    (hy : ∀ a, Y2 a → Y a) (nf : ∀ b o, KP2 b o → ¬ Fa cm env b ∧ ¬ OwnS ρ oa b) : Stt K sc cm KP2 Y2 env sl ρ oa h := by
  have hX : ∀ a, Xs cm Y2 env ρ oa a → Xs cm Y env ρ oa a := fun a q => q.imp_left (hy a)
  refine { S with keep := k, wd := wd, live := ⟨S.live.1, S.live.2.1, fun a q => S.live.2.2 a (hy a q)⟩, fa := fun a q => ?_, fro := fun i x d q1 q2 => ?_, own := fun i x d q1 q2 => ?_, off := fun i d q => ?_, tabs := S.tabs.mono hX, cav := fun q y c e => ⟨(S.cav q y c e).1, fun z => (S.cav q y c e).2 (hX c z)⟩ }
  · obtain ⟨a1, a2, a3, a4, a5, _⟩ := S.fa a q
    exact ⟨a1, fun z => a2 (hy a z), a3, a4, a5, fun o z => (nf a o z).1 q⟩
  · obtain ⟨v, hh, r⟩ := S.fro i x d q1 q2
    exact ⟨v, hh, r.sub hX⟩
  · obtain ⟨v, hh, r⟩ := S.own i x d q1 q2
    exact ⟨v, hh, r.imp (fun _ e => e) fun _ _ e av => ⟨e, av.mono hX⟩⟩
  · obtain ⟨a1, a2, a3, a4, a5, _⟩ := S.off i d q
    exact ⟨a1, fun z => a2 (hy _ z), a3, a4, a5, fun o z => (nf _ o z).2 ⟨i, d, q, rfl⟩⟩
/-- new things are made, that the frame shall not bear -/
theorem Stt.grow (S : Stt K sc cm KP Y env sl ρ oa h) (kp : KPok KP) (l : LeL env.locals (Xs cm Y env ρ oa) h h') (hn : ∀ b ∈ wr, h.get? b = none) (al : ∀ b ∈ wr, (h'.get? b).isSome) (ht : Tabs (fun a => Xs cm Y env ρ oa a ∨ a ∈ wr) h') :
    Stt K sc cm KP (fun a => Y a ∨ a ∈ wr) env sl ρ oa h' := by
  have kn : ∀ b ∈ wr, K.lookup b = none := fun b hb => by
    cases q : K.lookup b with
    | none => rfl
    | some o => have := S.world.k b o q; rw [hn b hb] at this; exact nn this
  have nw : ∀ b, (h.get? b).isSome → b ∉ wr := fun b q hb => by rw [hn b hb] at q; exact ff q
  have S' := S.leL kp l
  have hX : ∀ a, Xs cm (fun a => Y a ∨ a ∈ wr) env ρ oa a → Xs cm Y env ρ oa a ∨ a ∈ wr := fun a q => by
    rcases q with (q | q) | q
    · exact .inl (.inl q)
    · exact .inr q
    · exact .inl (.inr q)
  refine { S' with live := ⟨S'.live.1, S'.live.2.1, fun a q => ?_⟩, fa := fun a q => ?_, fro := fun i x d q1 q2 => ?_, own := fun i x d q1 q2 => ?_, off := fun i d q => ?_, tabs := ht.mono hX, cav := fun q y c e => ⟨l.live c (S.cav q y c e).1, fun z => (hX c z).elim (S.cav q y c e).2 (nw c (S.cav q y c e).1)⟩ }
  · rcases q with q | q
    · exact S'.live.2.2 a q
    · exact ⟨al a q, kn a q⟩
  · obtain ⟨a1, a2, a3⟩ := S'.fa a q
    exact ⟨a1, fun z => z.elim a2 (nw a (S.fa a q).1), a3⟩
  · obtain ⟨v, hh, r⟩ := S.fro i x d q1 q2
    exact ⟨v, hh.keepL S.cel.1 l, ((r.fresh (Z := fun a => a ∈ wr) hn).leL l (.inl Stt.xl)).sub hX⟩
  · obtain ⟨v, hh, r⟩ := S.own i x d q1 q2
    obtain ⟨o1, o2, o3, o4, _⟩ := S.off i d q2
    exact ⟨v, hh.keepL S.cel.1 l, r.imp (fun q e => l.keep _ q (fun z => o1 (.inl z)) o3 o4 e) fun b o e av => ⟨l.keep b o (fun z => av.1 (z ▸ Stt.xl)) av.2.1 av.2.2 e, ⟨fun z => (hX b z).elim av.1 (nw b (by rw [e]; rfl)), av.2⟩⟩⟩
  · obtain ⟨a1, a2, a3⟩ := S'.off i d q
    refine ⟨a1, fun z => z.elim a2 (nw _ ?_), a3⟩
    exact (S.liveX.1.2.2 _ (.inr (.inr ⟨i, d, q, rfl⟩))).1
/-- forbidden things change -/
theorem Stt.touch (S : Stt K sc cm KP Y env sl ρ oa h) {Y2 : Addr → Prop} (hy : ∀ a, Y2 a → Y a) (h6 : 365 ∉ wr ∧ 360 ∉ wr) (hk : ∀ b o, b ∉ wr → h.get? b = some o → h'.get? b = some o) (al : ∀ b ∈ wr, Y2 b → (h'.get? b).isSome) (hY : ∀ b ∈ wr, Y b) (hKP : ∀ b ∈ wr, ∀ o, ¬ KP b o)
    (hc : ∀ x c, (sc.names.lookup x = some .cell ∨ sc.names.lookup x = some .free) → env.cells.lookup x = some c → c ∉ wr) : Stt K sc cm KP Y2 env sl ρ oa h' := by
  have lv : ∀ b, b ∉ wr → (h.get? b).isSome → (h'.get? b).isSome := fun b hb q => by
    obtain ⟨o, e⟩ := Option.isSome_iff_exists.mp q
    rw [hk b o hb e]; rfl
  have hX : ∀ a, Xs cm Y2 env ρ oa a → Xs cm Y env ρ oa a := fun a q => q.imp_left (hy a)
  have nfa : ∀ a, Fa cm env a → a ∉ wr := fun a q z => (S.fa a q).2.1 (hY a z)
  have ns : ∀ m, h.Ns env.locals m → h'.Ns env.locals m := fun m n => Ns.le n fun o e => hk _ o (nfa _ (.inl rfl)) e
  have hold : ∀ x v, Holds sc env h x v → Holds sc env h' x v := fun x v hh => by
    cases x with
    | val u => exact hh
    | nm x =>
      rcases hh with ⟨a, m, n, e⟩ | ⟨a, c, e, n1, n2, ⟨o, i1, i2⟩⟩
      · exact .inl ⟨a, m, ns m n, e⟩
      · exact .inr ⟨a, c, e, n1, n2, ⟨o, hk c o (hc x c a e) i1, i2⟩⟩
  have rp : ∀ b o, h.get? b = some o → Av (Xs cm Y env ρ oa) b → h'.get? b = some o ∧ Av (Xs cm Y2 env ρ oa) b := fun b o e av => ⟨hk b o (fun z => av.1 (.inl (hY b z))) e, av.mono hX⟩
  refine { S with keep := fun b o q => hk b o (fun z => hKP b z o q) (S.keep b o q), live := ⟨lv _ h6.1 S.live.1, lv _ h6.2 S.live.2.1, fun a q => ⟨?_, (S.live.2.2 a (hy a q)).2⟩⟩, fa := fun a q => ?_, ns := ?_, fro := fun i x d q1 q2 => ?_, own := fun i x d q1 q2 => ?_, cex := fun x q => ?_, off := fun i d q => ?_, tabs := S.tabs.imp (fun o e => hk _ o h6.1 e) (fun o e => hk _ o h6.2 e) fun b o _ e _ av => rp b o e av, cav := fun q y c e => ⟨lv c (fun z => (S.cav q y c e).2 (.inl (hY c z))) (S.cav q y c e).1, fun z => (S.cav q y c e).2 (hX c z)⟩ }
  · by_cases hb : a ∈ wr
    · exact al a hb q
    · exact lv a hb (S.live.2.2 a (hy a q)).1
  · obtain ⟨a1, a2, a3⟩ := S.fa a q
    exact ⟨lv a (nfa a q) a1, fun z => a2 (hy a z), a3⟩
  · obtain ⟨m, n⟩ := S.ns; exact ⟨m, ns m n⟩
  · obtain ⟨v, hh, r⟩ := S.fro i x d q1 q2
    exact ⟨v, hold x v hh, r.imp rp⟩
  · obtain ⟨v, hh, r⟩ := S.own i x d q1 q2
    exact ⟨v, hold x v hh, r.imp (fun q e => hk _ q (fun z => (S.off i d q2).2.1 (hY _ z)) e) rp⟩
  · obtain ⟨c, v₀, e, n1, n2, ⟨o, i1, i2⟩⟩ := S.cex x q
    exact ⟨c, v₀, e, n1, n2, ⟨o, hk c o (hc x c (.inl q) e) i1, i2⟩⟩
  · obtain ⟨a1, a2, a3⟩ := S.off i d q
    exact ⟨a1, fun z => a2 (hy _ z), a3⟩
end

/-! what a loop walks along -/
noncomputable def Base (h₀ : Heap) (X : Addr → Prop) (wr : List Addr) (b : Addr) (o : Obj) : Prop := HP h₀ b o ∧ ¬ X b ∧ b ∉ wr
structure Src (K : Frag) (p : Program) (w : World) (A : Around) (g : Bool) (X : Addr → Prop) (t : Expr) (h₀ : Heap) (it : Value) (wr fp : List Addr) (St : Nat → Heap → Prop) (ds : List V) : Prop where
  sub : ∀ b ∈ wr, b ∈ fp
  fpOk : ∀ b ∈ fp, b ∈ wr ∨ ∃ o, Base h₀ X wr b o
  alive : ∀ i h, St i h → ∀ b ∈ wr, (h.get? b).isSome
  frame : ∀ i h h', St i h → (∀ b ∈ fp, ∀ o, h.get? b = some o → h'.get? b = some o) → St i h'
  st : St 0 h₀
  tabs : Tabs (fun a => X a ∨ a ∈ wr) h₀
  item : ∀ (i : Nat) (d : V) (s : Shared) (Z : Addr → Prop) (Q : Value → Shared → Prop) (E : Value → Shared → Prop), ds[i]? = some d → St i s.heap → (∀ b o, Base h₀ X wr b o → s.heap.get? b = some o) → Live K Z s.heap → (∀ b o, Base h₀ X wr b o → ¬ Z b) →
    (∀ v h' tk, St (i + 1) h' → (∀ b o, b ∉ wr → s.heap.get? b = some o → h'.get? b = some o) → Rep h' Z v d → Q v { s with heap := h', toks := tk }) →
    wpAny (model p w) A (pyNext it) (fun r s₁ => match r with
      | none => False
      | some v => match g with
        | true => wpAny (model p w) A (letOwnedTupleGo t it v) (fun _ s₂ => Q v s₂) E s₁
        | false => Q v s₁) E s
  done : ∀ (s : Shared) (Q : Shared → Prop) (E : Value → Shared → Prop), St ds.length s.heap → (∀ h' tk, (∀ b o, b ∉ wr → s.heap.get? b = some o → h'.get? b = some o) → Q { s with heap := h', toks := tk }) →
    wpAny (model p w) A (pyNext it) (fun r s₁ => match r with
      | none => Q s₁
      | some _ => False) E s
  self : ∀ i (s : Shared) (Q : Value → Shared → Prop) (E : Value → Shared → Prop), St i s.heap → Q it s → wpAny (model p w) A (pyIter it) Q E s

/-- evaluating what a loop walks along, and its iterator -/
noncomputable def IterEv (K : Frag) (p : Program) (w : World) (n : Nat) (sc : Scope) (xs : List Str) (ρ : List (Option V)) (g : Bool) (t iter : Expr) (ds : List V) : Prop :=
  ∀ (A : Around) (E : Value → Shared → Prop) (s : Shared) (X : Addr → Prop) (env : Env) (Q : Value → Shared → Prop),
    Rm n A → EnvOk sc env → Wd K s.heap → Live K X s.heap → Vars sc env s.heap X xs ρ →
    (∀ it h' tk wr fp St, Le X s.heap h' → (∀ b ∈ wr, s.heap.get? b = none) → Src K p w A g X t h' it wr fp St ds → Q it { s with heap := h', toks := tk }) →
    wpAny (model p w) A (eval iter env) (fun x s₁ => wpAny (model p w) A (pyIter x) Q E s₁) E s

/-- the same, told more weakly: the frame's own place may be touched, its names stay -/
noncomputable def IterEvL (K : Frag) (p : Program) (w : World) (n : Nat) (sc : Scope) (xs : List Str) (ρ : List (Option V)) (g : Bool) (t iter : Expr) (ds : List V) : Prop :=
  ∀ (A : Around) (E : Value → Shared → Prop) (s : Shared) (X : Addr → Prop) (env : Env) (Q : Value → Shared → Prop),
    Rm n A → EnvOk sc env → Wd K s.heap → Live K X s.heap → Vars sc env s.heap X xs ρ → X env.locals → (∃ m, s.heap.Ns env.locals m) →
    (∀ it h' tk wr fp St, LeL env.locals X s.heap h' → (∀ b ∈ wr, s.heap.get? b = none) → Src K p w A g X t h' it wr fp St ds → Q it { s with heap := h', toks := tk }) →
    wpAny (model p w) A (eval iter env) (fun x s₁ => wpAny (model p w) A (pyIter x) Q E s₁) E s
theorem IterEv.toL {ρ : List (Option V)} {g : Bool} {t iter : Expr} {ds : List V} (h : IterEv K p w n sc xs ρ g t iter ds) : IterEvL K p w n sc xs ρ g t iter ds :=
  fun A E s X env Q r eo wd lv va _ _ q => h A E s X env Q r eo wd lv va fun it h' tk wr fp St l => q it h' tk wr fp St (l.toL eo.l1 eo.l2)

theorem Src.of_walks {A : Around} {g : Bool} {X : Addr → Prop} {t : Expr} {h₀ : Heap} {I : Addr} {wr fp : List Addr} {St : Nat → Heap → Prop} {P : Nat → Value → Prop} {ds : List V} (W : Walks p w A I fp wr ds.length P St)
    (fpOk : ∀ b ∈ fp, b ∈ wr ∨ ∃ o, Base h₀ X wr b o) (alive : ∀ i h, St i h → ∀ b ∈ wr, (h.get? b).isSome) (st : St 0 h₀) (tabs : Tabs (fun a => X a ∨ a ∈ wr) h₀)
    (rep : ∀ i v d, P i v → ds[i]? = some d → Rep h₀ (fun a => X a ∨ a ∈ wr) v d)
    (go : g = true → ∀ i v (s : Shared) (Q : Unit → Shared → Prop) (E : Value → Shared → Prop), St i s.heap → Q () s → wpAny (model p w) A (letOwnedTupleGo t (.ref I) v) Q E s) :
    Src K p w A g X t h₀ (.ref I) wr fp St ds where
  sub := W.sub
  fpOk := fpOk
  alive := alive
  frame := W.frame
  st := st
  tabs := tabs
  item := fun i d s Z Q E hd hst hb lz nz q => by
    refine W.item i s _ E (List.getElem?_eq_some_iff.mp hd).1 hst fun v h' tk pv st' k => ?_
    have rp : Rep h' Z v d := (rep i v d pv hd).imp fun b o e av => by
      have hbase : Base h₀ X wr b o := ⟨⟨av.2.1, av.2.2, e⟩, fun z => av.1 (.inl z), fun z => av.1 (.inr z)⟩
      exact ⟨k b o hbase.2.2 (hb b o hbase), ⟨nz b o hbase, av.2⟩⟩
    cases g with
    | true => exact go rfl (i + 1) v { s with heap := h', toks := tk } _ _ st' (q v h' tk st' k rp)
    | false => exact q v h' tk st' k rp
  done := fun s Q E hst q => W.done s _ E hst q
  self := W.self

theorem get?_push_lt {h : Heap} {o : Obj} {b : Addr} : (h.push o).get? b = none → h.get? b = none := fun e => by
  cases q : h.get? b with
  | none => rfl
  | some o' => rw [Heap.get?_push_of_some _ q] at e; exact nn e.symm
theorem tabs_new {X : Addr → Prop} {h : Heap} {o : Obj} {wr : List Addr} (T : Tabs X h) (hw : ∀ b ∈ wr, h.get? b = none) : Tabs (fun a => X a ∨ a ∈ wr) (h.push o) :=
  T.imp (fun _ e => Heap.get?_push_of_some _ e) (fun _ e => Heap.get?_push_of_some _ e) fun b _ _ e _ av => ⟨Heap.get?_push_of_some _ e, fun z => z.elim av.1 fun z => (by rw [hw b z] at e; exact nn e), av.2⟩
theorem fresh_at {Z : Addr → Prop} {h h' : Heap} (l : Le Z h h') {b : Addr} (e : h'.get? b = none) : h.get? b = none := by
  cases q : h.get? b with
  | none => rfl
  | some o =>
    have := l.live b (by rw [q]; rfl)
    rw [e] at this; exact ff this
theorem iter_list {A : Around} {E : Value → Shared → Prop} {s : Shared} {X : Addr → Prop} {g : Bool} {t : Expr} {ds : List V} {v : Value} {Q : Value → Shared → Prop} (hd : A.handled = none) (lv : Live K X s.heap) (rp : Rep s.heap X v (.list ds))
    (q : ∀ it h' tk wr fp St, (∀ b o, s.heap.get? b = some o → h'.get? b = some o) → (∀ b ∈ wr, s.heap.get? b = none) → Src K p w A g X t h' it wr fp St ds → Q it { s with heap := h', toks := tk }) : wpAny (model p w) A (pyIter v) Q E s := by
  cases rp using Rep.casesList with
  | list a b c e f =>
    rename_i ad o vs m
    have il := IsList.of a b c
    have hne : ad ≠ s.heap.objs.size := Nat.ne_of_lt (Heap.lt_size a)
    have nw := get?_size s.heap
    have hz := f.length
    rw [Array.length_toList] at hz
    have one : ∀ b ∈ [s.heap.objs.size], s.heap.get? b = none := fun b hb => (List.mem_singleton.mp hb) ▸ nw
    refine wpAny_pyIter_list il (q _ _ s.toks [s.heap.objs.size] [s.heap.objs.size, ad] _ (fun _ _ e => Heap.get?_push_of_some _ e) one (Src.of_walks (P := fun i v => vs[i]? = some v) (St := fun i h => h.IsListIter s.heap.objs.size ad i ∧ h.IsList ad vs) (hz ▸ Walks.list hd s.heap.objs.size ad hne vs) (fun b hb => ?_) (fun i h st b hb => ?_) ⟨⟨_, Heap.get?_push_size _ rfl, rfl, rfl⟩, il.push _⟩ (tabs_new lv.t one) (fun i v d e1 e2 => ?_) (fun _ i v s Q E st q => letGo_listiter st.1 q)))
    · rcases List.mem_cons.mp hb with rfl | hb
      · exact .inl (List.mem_cons_self ..)
      · rw [List.mem_singleton] at hb; subst hb
        exact .inr ⟨o, ⟨e.2.1, e.2.2, Heap.get?_push_of_some _ a⟩, e.1, fun z => hne (List.mem_singleton.mp z)⟩
    · rw [List.mem_singleton] at hb; subst hb
      obtain ⟨⟨_, e, _⟩, _⟩ := st
      rw [e]; rfl
    · obtain ⟨d', g1, g2⟩ := f.get' i v (by rw [Array.getElem?_toList]; exact e1)
      rw [g1] at e2; cases e2
      exact (g2.fresh (Z := fun a => a ∈ [s.heap.objs.size]) one).le (Le.push _ _)
theorem IterEv.list {ρ : List (Option V)} {g : Bool} {t iter : Expr} {ds : List V} {fr : Bool} (h : Evs K p w n sc xs ρ iter fr (.list ds)) : IterEv K p w n sc xs ρ g t iter ds :=
  fun A E s X env Q r eo wd lv va q => h.weak A E s X env _ r eo wd lv va fun v h' tk l rp _ => iter_list (s := { s with heap := h', toks := tk }) r.hd (lv.le l) rp fun it h2 tk2 wr fp St k fr src => q it h2 tk2 wr fp St (l.trans (.of_keep k)) (fun b hb => fresh_at l (fr b hb)) src
theorem IterEv.tuple {ρ : List (Option V)} {g : Bool} {t iter : Expr} {ds : List V} {fr : Bool} (h : Evs K p w n sc xs ρ iter fr (.tuple ds)) : IterEv K p w n sc xs ρ g t iter ds :=
  fun A E s X env Q r eo wd lv va q => h.weak A E s X env _ r eo wd lv va fun v h' tk l rp _ => by
    cases rp using Rep.casesTuple with
    | tuple a b c e f =>
      rename_i ad o vs m _
      have il : h'.IsTuple ad vs := ⟨o, a, b, m, c⟩
      have hne : ad ≠ h'.objs.size := Nat.ne_of_lt (Heap.lt_size a)
      have nw := get?_size h'
      have l2 := l.trans (Le.push (X := X) h' { cls := .type "tuple_iterator", data := .fields #[.ref ad, .int 0 0] })
      have hz := f.length
      rw [Array.length_toList] at hz
      refine wpAny_pyIter_tuple (s := { s with heap := h', toks := tk }) il (q _ _ tk [h'.objs.size] [h'.objs.size, ad] _ l2 (fun b hb => ?_) (Src.of_walks (P := fun i v => vs[i]? = some v) (St := fun i h => h.IsTupleIter h'.objs.size ad i ∧ h.IsTuple ad vs) (hz ▸ Walks.tuple r.hd h'.objs.size ad hne vs) (fun b hb => ?_) (fun i h st b hb => ?_) ⟨⟨_, Heap.get?_push_size _ rfl, rfl, rfl⟩, ⟨o, Heap.get?_push_of_some _ a, b, m, c⟩⟩ (tabs_new (lv.le l).t fun b hb => by simp at hb; rw [hb]; exact nw) (fun i v d e1 e2 => ?_) (fun _ i v s Q E st q => letGo_tupleiter st.1 q)))
      · simp at hb; subst hb; exact fresh_at l nw
      · rcases List.mem_cons.mp hb with rfl | hb
        · exact .inl (by simp)
        · simp at hb; subst hb
          exact .inr ⟨o, ⟨e.2.1, e.2.2, Heap.get?_push_of_some _ a⟩, e.1, by simpa using hne⟩
      · simp at hb; subst hb
        obtain ⟨⟨_, e, _⟩, _⟩ := st
        rw [e]; rfl
      · obtain ⟨d', g1, g2⟩ := f.get' i v (by simpa using e1)
        rw [g1] at e2; cases e2
        exact (g2.fresh (Z := fun a => a ∈ [h'.objs.size]) fun a ha => by simp at ha; subst ha; exact nw).le (Le.push _ _)
theorem IterEv.range {ρ : List (Option V)} {g : Bool} {iter : Expr} {x : Str} {px : Pos} {a b c : Int} {m : Nat} {fr : Bool} (h : Evs K p w n sc xs ρ iter fr (.range a b c)) (hs : Builtin.Range.small a b c = true) (hn : Builtin.Range.rangeSize a b c = m) : IterEv K p w n sc xs ρ g (.Name x px) iter ((rInts a c m).map .int) :=
  fun A E s X env Q r eo wd lv va q => h.weak A E s X env _ r eo wd lv va fun v h' tk l rp _ => by
    cases rp using Rep.casesRange with
    | range i av =>
      have nw := get?_size h'
      have l2 := l.trans (Le.push (X := X) h' { cls := .type "range_iterator", data := .fields #[rawInt a, rawInt (Builtin.Range.rangeSize a b c), rawInt c] })
      have hz : ((rInts a c m).map V.int).length = m := by simp [rInts]
      refine wpAny_pyIter_range (s := { s with heap := h', toks := tk }) i hs (q _ _ tk [h'.objs.size] [h'.objs.size] _ l2 (fun b hb => ?_) (Src.of_walks (hz.symm ▸ Walks.range r.hd h'.objs.size a c m) (fun b hb => .inl hb) (fun i h st b hb => ?_) ?_ (tabs_new (lv.le l).t fun b hb => by simp at hb; rw [hb]; exact nw) (fun i v d e1 e2 => ?_) (fun _ i v s Q E st q => wpAny_pure q)))
      · simp at hb; subst hb; exact fresh_at l nw
      · simp at hb; subst hb
        rw [show h.get? h'.objs.size = _ from st]; rfl
      · have e1 : a + ((0 : Nat) : Int) * c = a := by simp
        have e2 : (((rInts a c m).map V.int).length : Int) - ((0 : Nat) : Int) = Builtin.Range.rangeSize a b c := by rw [hn, hz]; simp
        rw [e1, e2]
        exact Heap.get?_push_size _ rfl
      · obtain ⟨t, rfl⟩ := e1
        simp only [List.getElem?_map, Option.map_eq_some_iff] at e2
        obtain ⟨x, e3, rfl⟩ := e2
        unfold rInts at e3
        rw [List.getElem?_map, Option.map_eq_some_iff] at e3
        obtain ⟨y, e4, rfl⟩ := e3
        obtain ⟨hj, e5⟩ := List.getElem?_eq_some_iff.mp e4
        rw [List.getElem_range] at e5
        subst e5
        exact .int _ _

theorem Src.next {A : Around} {X : Addr → Prop} {t : Expr} {h₀ : Heap} {it : Value} {wr fp : List Addr} {St : Nat → Heap → Prop} {ds : List V} (src : Src K p w A true X t h₀ it wr fp St ds) {i : Nat} {d : V} {s : Shared} {Z : Addr → Prop} {Q : Value → Shared → Prop} {E : Value → Shared → Prop} {R : Option Value → Shared → Prop}
    (hR : ∀ v s₁, wpAny (model p w) A (letOwnedTupleGo t it v) (fun _ s₂ => Q v s₂) E s₁ → R (some v) s₁)
    (hd : ds[i]? = some d) (hst : St i s.heap) (hb : ∀ b o, Base h₀ X wr b o → s.heap.get? b = some o) (lz : Live K Z s.heap) (nz : ∀ b o, Base h₀ X wr b o → ¬ Z b)
    (q : ∀ v h' tk, St (i + 1) h' → (∀ b o, b ∉ wr → s.heap.get? b = some o → h'.get? b = some o) → Rep h' Z v d → Q v { s with heap := h', toks := tk }) : wpAny (model p w) A (pyNext it) R E s :=
  wpAny_mono (src.item i d s Z Q E hd hst hb lz nz q) (fun rr s₁ h => by
    cases rr with
    | none => exact h.elim
    | some v => exact hR v s₁ h) fun _ _ e => e
theorem Src.next0 {A : Around} {X : Addr → Prop} {t : Expr} {h₀ : Heap} {it : Value} {wr fp : List Addr} {St : Nat → Heap → Prop} {ds : List V} (src : Src K p w A false X t h₀ it wr fp St ds) {i : Nat} {d : V} {s : Shared} {Z : Addr → Prop} {Q : Value → Shared → Prop} {E : Value → Shared → Prop} {R : Option Value → Shared → Prop}
    (hR : ∀ v s₁, Q v s₁ → R (some v) s₁)
    (hd : ds[i]? = some d) (hst : St i s.heap) (hb : ∀ b o, Base h₀ X wr b o → s.heap.get? b = some o) (lz : Live K Z s.heap) (nz : ∀ b o, Base h₀ X wr b o → ¬ Z b)
    (q : ∀ v h' tk, St (i + 1) h' → (∀ b o, b ∉ wr → s.heap.get? b = some o → h'.get? b = some o) → Rep h' Z v d → Q v { s with heap := h', toks := tk }) : wpAny (model p w) A (pyNext it) R E s :=
  wpAny_mono (src.item i d s Z Q E hd hst hb lz nz q) (fun rr s₁ h => by
    cases rr with
    | none => exact h.elim
    | some v => exact hR v s₁ h) fun _ _ e => e
theorem Src.end {A : Around} {g : Bool} {X : Addr → Prop} {t : Expr} {h₀ : Heap} {it : Value} {wr fp : List Addr} {St : Nat → Heap → Prop} {ds : List V} (src : Src K p w A g X t h₀ it wr fp St ds) {s : Shared} {E : Value → Shared → Prop} {R : Option Value → Shared → Prop}
    (hst : St ds.length s.heap) (q : ∀ h' tk, (∀ b o, b ∉ wr → s.heap.get? b = some o → h'.get? b = some o) → R none { s with heap := h', toks := tk }) : wpAny (model p w) A (pyNext it) R E s :=
  wpAny_mono (src.done s (R none) E hst q) (fun rr s₁ h => by
    cases rr with
    | none => exact h
    | some v => exact h.elim) fun _ _ e => e
/-- no name of the frame is of another frame -/
noncomputable def noFree (sc : Scope) : Bool := sc.names.all fun x => x.2 != .free
theorem noFree_lk {sc : Scope} (h : noFree sc = true) {x : Str} (e : sc.names.lookup x = some .free) : False := by
  have := List.all_eq_true.mp h _ (mem_of_lookup e)
  cases this
theorem Tr1.forL {t iter : Expr} {body : List Stmt} {pos : Pos} {ds : List V} {Ψ : PostR} (J : Nat → PostN) (hit : IterEvL K p w n sc xs (hid ρ) true t iter ds) (h0 : J 0 ρ)
    (step : ∀ (j : Nat) (d : V) (ρ' : List Ent), ds[j]? = some d → J j ρ' → ∃ ρ'', AsgTo K p w n sc cm xs t d ρ' ρ'' ∧ Tr K p w n sc cm xs ρ'' body (J (j + 1)) Ψ)
    (hnf : noFree sc = true := by rfl) (hs : ∀ env x, foldedSetIterable iter env x = pure x := by intro _ _; rfl) :
    Tr1 K p w n sc cm xs ρ (.For t iter body [] pos) (J ds.length) Ψ :=
  fun A E s KP Y env oa Q r eo kp S qn qr => wpAny_For (hit A _ s (Xs cm Y env ρ oa) env _ r eo S.world S.liveX (S.hid' nmOk preRefl) Stt.xl S.ns fun it h₀ tk₀ wr fp St l wn src => by
    have nw : ∀ b, (s.heap.get? b).isSome → b ∉ wr := fun b q hb => by rw [wn b hb] at q; exact ff q
    have w6 : 365 ∉ wr ∧ 360 ∉ wr := ⟨nw _ S.live.1, nw _ S.live.2.1⟩
    have wKP : ∀ b o, KP b o → b ∉ wr := fun b o q => nw b (by rw [S.keep b o q]; rfl)
    have cells : ∀ x c, (sc.names.lookup x = some .cell ∨ sc.names.lookup x = some .free) → env.cells.lookup x = some c → c ∉ wr := fun x c q e => by
      rcases q with q | q
      · obtain ⟨c', v₀, e', _, _, ⟨o, i1, _⟩⟩ := S.cex x q
        rw [e'] at e; cases e
        exact nw _ (by rw [i1]; rfl)
      · exact (noFree_lk hnf q).elim
    let X₀ := Xs cm Y env ρ oa
    let B : Addr → Obj → Prop := Base h₀ X₀ wr
    let KP' : Addr → Obj → Prop := fun b o => KP b o ∨ B b o
    let Y' : Addr → Prop := fun a => Y a ∨ a ∈ wr
    have kpl : ∀ b o, KP b o → h₀.get? b = some o := fun b o q => l.keep b o (fun z => (S.fa _ (.inl rfl)).2.2.2.2.2 o (z ▸ q)) (kp b o q).1 (kp b o q).2 (S.keep b o q)
    have S₀ : Sn K sc cm KP' Y' env xs ρ oa h₀ := by
      refine (S.grow kp l wn (fun b hb => src.alive 0 h₀ src.st b hb) src.tabs).re (fun b o q => ?_) (fun h' k => S.wd h' fun b o q => k b o (.inl q)) (fun _ q => q) fun b o q => ?_
      · rcases q with q | q
        · exact kpl b o q
        · exact q.1.2.2
      · rcases q with q | q
        · exact ⟨fun z => (S.fa b z).2.2.2.2.2 o q, fun ⟨i, d, e, z⟩ => (S.off i d e).2.2.2.2.2 o (z ▸ q)⟩
        · exact ⟨fun z => q.2.1 (.inr (.inl z)), fun z => q.2.1 (.inr (.inr z))⟩
    have kp' : KPok KP' := fun b o q => q.elim (kp b o) fun q => ⟨q.1.1, q.1.2.1⟩
    refine codeAny_forLoop_any (fun k s' => ∃ i ρ' oa' h' tk, s' = { s with heap := h', toks := tk } ∧ k = ds.length + 1 - i ∧ i ≤ ds.length ∧ J i ρ' ∧ St i h' ∧ Sn K sc cm KP' Y' env xs ρ' oa' h')
      (fun k s' hI => ?_) (ds.length + 1) ⟨0, ρ, oa, h₀, tk₀, rfl, rfl, Nat.zero_le _, h0, src.st, S₀⟩
    obtain ⟨i, ρ', oa', h', tk, rfl, rfl, hi, hJ, hst, S'⟩ := hI
    have nB : ∀ b o, B b o → ¬ Xs cm Y' env ρ' oa' b := fun b o q z => by
      rcases z with (z | z) | z | ⟨i, d, e, z⟩
      · exact q.2.1 (.inl z)
      · exact q.2.2 z
      · exact (S'.fa b z).2.2.2.2.2 o (.inr q)
      · exact (S'.off i d e).2.2.2.2.2 o (.inr (z ▸ q))
    rcases Nat.lt_or_eq_of_le hi with hlt | rfl
    · obtain ⟨d, hd⟩ : ∃ d, ds[i]? = some d := ⟨_, List.getElem?_eq_getElem hlt⟩
      obtain ⟨ρ'', ha, hb⟩ := step i d ρ' hd hJ
      refine src.next (s := { s with heap := h', toks := tk }) (fun v s₁ h => h) hd hst (fun b o q => S'.keep b o (.inr q)) S'.liveX nB fun v h₁ tk₁ st₁ k₁ rv => ?_
      have S₁ : Sn K sc cm KP' Y' env xs ρ' oa' h₁ := S'.touch (fun _ q => q) w6 k₁ (fun b hb _ => src.alive _ _ st₁ b hb) (fun b hb => .inr hb) (fun b hb o q => q.elim (fun q => wKP b o q hb) fun q => q.2.2 hb) cells
      let KP₁ : Addr → Obj → Prop := fun b o => KP' b o ∨ (b ∈ wr ∧ h₁.get? b = some o)
      have S₂ : Sn K sc cm KP₁ Y' env xs ρ' oa' h₁ := by
        refine S₁.re (fun b o q => q.elim (S₁.keep b o) (·.2)) (fun h' k => S₁.wd h' fun b o q => k b o (.inl q)) (fun _ q => q) fun b o q => ?_
        rcases q with q | q
        · exact ⟨fun z => (S₁.fa b z).2.2.2.2.2 o q, fun ⟨i, d, e, z⟩ => (S₁.off i d e).2.2.2.2.2 o (z ▸ q)⟩
        · exact ⟨fun z => (S₁.fa b z).2.1 (.inr q.1), fun ⟨i, d, e, z⟩ => (S₁.off i d e).2.1 (.inr (z ▸ q.1))⟩
      have kp₁ : KPok KP₁ := fun b o q => q.elim (kp' b o) fun q => ⟨fun z => w6.1 (z ▸ q.1), fun z => w6.2 (z ▸ q.1)⟩
      refine ha A _ { s with heap := h₁, toks := tk₁ } KP₁ Y' env oa' v _ r eo kp₁ S₂ rv fun oa₂ h₂ tk₂ S₃ => ?_
      refine hb A _ { s with heap := h₂, toks := tk₂ } KP₁ Y' env oa₂ _ r eo kp₁ S₃ (fun ρ₃ oa₃ h₃ tk₃ hj S₄ => ?_) (fun ρ₃ oa₃ fr d v h₃ tk₃ hj S₄ rv fv => ?_)
      · refine ⟨ds.length + 1 - (i + 1), by omega, i + 1, ρ₃, oa₃, h₃, tk₃, rfl, rfl, hlt, hj, ?_, ?_⟩
        · refine src.frame _ _ _ st₁ fun b hb o e => ?_
          rcases src.fpOk b hb with hw | ⟨o', hq⟩
          · exact S₄.keep b o (.inr ⟨hw, e⟩)
          · have : h₁.get? b = some o' := S₁.keep b o' (.inr hq)
            rw [e] at this; cases this
            exact S₄.keep b o (.inl (.inr hq))
        · exact S₄.re (fun b o q => S₄.keep b o (.inl q)) (fun h' k => S₁.wd h' k) (fun _ q => q) fun b o q => ⟨fun z => (S₄.fa b z).2.2.2.2.2 o (.inl q), fun ⟨i, d, e, z⟩ => (S₄.off i d e).2.2.2.2.2 o (.inl (z ▸ q))⟩
      · refine qr ρ₃ oa₃ fr d v h₃ tk₃ hj ?_ (rv.sub fun _ q => .inl q) fun e => (fv e).imp fun b o q => .inl (.inl q)
        exact S₄.re (fun b o q => S₄.keep b o (.inl (.inl q))) S.wd (fun _ q => .inl q) fun b o q => ⟨fun z => (S₄.fa b z).2.2.2.2.2 o (.inl (.inl q)), fun ⟨i, d, e, z⟩ => (S₄.off i d e).2.2.2.2.2 o (.inl (.inl (z ▸ q)))⟩
    · refine src.end (s := { s with heap := h', toks := tk }) hst fun h₁ tk₁ k₁ => ?_
      refine wpAny_execs_nil (qn ρ' oa' h₁ tk₁ hJ ?_)
      have S₁ : Sn K sc cm KP Y' env xs ρ' oa' h' := S'.re (fun b o q => S'.keep b o (.inl q)) S.wd (fun _ q => q) fun b o q => ⟨fun z => (S'.fa b z).2.2.2.2.2 o (.inl q), fun ⟨i, d, e, z⟩ => (S'.off i d e).2.2.2.2.2 o (.inl (z ▸ q))⟩
      exact S₁.touch (fun _ q => .inl q) w6 k₁ (fun b hb z => absurd hb (nw b (S.live.2.2 b z).1)) (fun b hb => .inr hb) (fun b hb o q => wKP b o q hb) cells) (hs env)
theorem Tr1.for {t iter : Expr} {body : List Stmt} {pos : Pos} {ds : List V} {Ψ : PostR} (J : Nat → PostN) (hit : IterEv K p w n sc xs (hid ρ) true t iter ds) (h0 : J 0 ρ)
    (step : ∀ (j : Nat) (d : V) (ρ' : List Ent), ds[j]? = some d → J j ρ' → ∃ ρ'', AsgTo K p w n sc cm xs t d ρ' ρ'' ∧ Tr K p w n sc cm xs ρ'' body (J (j + 1)) Ψ)
    (hnf : noFree sc = true := by rfl) (hs : ∀ env x, foldedSetIterable iter env x = pure x := by intro _ _; rfl) :
    Tr1 K p w n sc cm xs ρ (.For t iter body [] pos) (J ds.length) Ψ := .forL J hit.toL h0 step hnf hs
end Mine

-- B12
namespace Mine
variable {K : Frag} {p : Program} {w : World} {n : Nat} {sc : Scope} {cm : Bool}

noncomputable def relS (scope sc : Scope) : Scope :=
  { scope with names := scope.names.map fun (n, k) => if (k == .free && sc.kind == .function && sc.names.lookup n == some .cell) then (n, .cell) else (n, k) }
theorem relabel_eq {scope sc : Scope} {env : Env} (e : env.scope = sc) : relabel scope env = relS scope sc := by
  subst e; rfl
theorem relS_free {sc : Scope} : ∀ {names : List (Str × NameKind)} {x : Str}, names.lookup x = some .free →
    (names.map fun (n, k) => if (k == NameKind.free && sc.kind == .function && sc.names.lookup n == some .cell) then (n, NameKind.cell) else (n, k)).lookup x = some .cell ∨
    (names.map fun (n, k) => if (k == NameKind.free && sc.kind == .function && sc.names.lookup n == some .cell) then (n, NameKind.cell) else (n, k)).lookup x = some .free
  | [], _, h => by simp at h
  | (n, k) :: r, x, h => by
    have ih := @relS_free sc r x
    show List.lookup x ((if (k == NameKind.free && sc.kind == .function && sc.names.lookup n == some .cell) = true then (n, NameKind.cell) else (n, k)) :: _) = _ ∨ List.lookup x ((if (k == NameKind.free && sc.kind == .function && sc.names.lookup n == some .cell) = true then (n, NameKind.cell) else (n, k)) :: _) = _
    cases hx : x == n with
    | true =>
      simp only [List.lookup_cons, hx] at h
      cases h
      by_cases hc : (NameKind.free == NameKind.free && sc.kind == .function && sc.names.lookup n == some .cell) = true
      · rw [if_pos hc]; left; simp [List.lookup_cons, hx]
      · rw [if_neg hc]; right; simp [List.lookup_cons, hx]
    | false =>
      simp only [List.lookup_cons, hx] at h
      by_cases hc : (k == NameKind.free && sc.kind == .function && sc.names.lookup n == some .cell) = true
      · rw [if_pos hc]; simp only [List.lookup_cons, hx]; exact ih h
      · rw [if_neg hc]; simp only [List.lookup_cons, hx]; exact ih h
theorem relS_local {sc : Scope} : ∀ {names : List (Str × NameKind)} {x : Str}, names.lookup x = some .local →
    (names.map fun (n, k) => if (k == NameKind.free && sc.kind == .function && sc.names.lookup n == some .cell) then (n, NameKind.cell) else (n, k)).lookup x = some .local
  | [], _, h => by simp at h
  | (n, k) :: r, x, h => by
    have ih := @relS_local sc r x
    show List.lookup x ((if (k == NameKind.free && sc.kind == .function && sc.names.lookup n == some .cell) = true then (n, NameKind.cell) else (n, k)) :: _) = _
    cases hx : x == n with
    | true =>
      simp only [List.lookup_cons, hx] at h
      cases h
      simp [List.lookup_cons, hx]
    | false =>
      simp only [List.lookup_cons, hx] at h
      by_cases hc : (k == NameKind.free && sc.kind == .function && sc.names.lookup n == some .cell) = true
      · rw [if_pos hc]; simp only [List.lookup_cons, hx]; exact ih h
      · rw [if_neg hc]; simp only [List.lookup_cons, hx]; exact ih h

/-- the names that a lambda or a comprehension takes from around it: by their places -/
noncomputable def capNames (xs : List Str) (ks : List Nat) : List Str := ks.map fun k => xs.getD k ""
noncomputable def capDat (ρ : List (Option V)) (ks : List Nat) : List (Option V) := ks.map fun k => ρ.getD k none
noncomputable def capOk (scope sc : Scope) (xs : List Str) (ks : List Nat) : Bool :=
  scope.names.all (fun y => y.2 != .cell && (y.2 != .free || ks.any fun k => xs[k]? == some y.1) && (y.2 != .local || scope.names.lookup y.1 == some .local)) &&
  ks.all (fun k => match xs[k]? with
    | some c => scope.names.lookup c == some .free && (sc.names.lookup c == some .cell || sc.names.lookup c == some .free)
    | none => false) && (codeOf (relS scope sc)).isNone
noncomputable def knownAll (ρ : List (Option V)) (ks : List Nat) : Bool := ks.all fun k => match ρ[k]? with
  | some (some _) => true
  | _ => false

theorem closure_ex {env : Env} : ∀ (names : List (Str × NameKind)) (cs : List (Str × Addr)), (∀ y ∈ names, y.2 = .free → ∃ c, env.cells.lookup y.1 = some c) →
    ∃ cl, (forIn names cs fun (x : Str × NameKind) (cs : List (Str × Addr)) => (do
      let (name, kind) := x
      if kind == .free then do
        let a ← cellOf env name
        pure (ForInStep.yield ((name, a) :: cs))
      else pure (ForInStep.yield cs) : Sem (ForInStep (List (Str × Addr))))) = pure cl ∧ ∀ z, cl.lookup z = if (z, NameKind.free) ∈ names then env.cells.lookup z else cs.lookup z
  | [], cs, _ => ⟨cs, rfl, fun z => by simp⟩
  | (y, k) :: names, cs, h => by
    by_cases hk : k = .free
    · subst hk
      obtain ⟨c, hc⟩ := h _ (List.mem_cons_self ..) rfl
      obtain ⟨cl, e, q⟩ := closure_ex names ((y, c) :: cs) fun z hz => h z (List.mem_cons_of_mem _ hz)
      refine ⟨cl, ?_, fun z => ?_⟩
      · rw [List.forIn_cons]
        have : cellOf env y = pure c := by unfold cellOf; rw [hc]
        simp only [this, beq_self_eq_true, if_true]
        exact e
      · rw [q]
        by_cases hz : z = y
        · subst hz
          simp [hc]
        · simp only [List.mem_cons, Prod.mk.injEq, hz, false_and, false_or]
          rw [List.lookup_cons, beq_eq_false_iff_ne.mpr hz]
    · obtain ⟨cl, e, q⟩ := closure_ex names cs fun z hz => h z (List.mem_cons_of_mem _ hz)
      refine ⟨cl, ?_, fun z => ?_⟩
      · rw [List.forIn_cons]
        have : (k == NameKind.free) = false := by cases k <;> first | rfl | exact absurd rfl hk
        simp only [this]
        exact e
      · rw [q]
        have : ((z, NameKind.free) : Str × NameKind) ≠ (y, k) := fun e => hk (by cases e; rfl)
        simp [this]
theorem closure_of {scope : Scope} {env : Env} (h : ∀ y ∈ scope.names, y.2 = .free → ∃ c, env.cells.lookup y.1 = some c) :
    ∃ cl, closureFor scope env = pure cl ∧ ∀ z, scope.names.lookup z = some .free → cl.lookup z = env.cells.lookup z := by
  obtain ⟨cl, e, q⟩ := closure_ex (env := env) scope.names [] h
  refine ⟨cl, ?_, fun z hz => ?_⟩
  · unfold closureFor
    exact (congrArg (fun (m : Sem (List (Str × Addr))) => m >>= fun cs => (pure cs : Sem (List (Str × Addr))) >>= fun r => pure r) e).trans rfl
  · rw [q, if_pos (mem_of_lookup hz)]

section
variable {xs : List Str} {ρ : List (Option V)} {scope : Scope} {env : Env} {x : Str} {ks : List Nat} {cl : List (Str × Addr)} {C : Addr}
theorem capOk_split (h : capOk scope sc xs ks = true) : (∀ y ∈ scope.names, y.2 ≠ .cell ∧ (y.2 = .free → ∃ k ∈ ks, xs[k]? = some y.1) ∧ (y.2 = .local → scope.names.lookup y.1 = some .local)) ∧
    ∀ k ∈ ks, ∃ c, xs[k]? = some c ∧ scope.names.lookup c = some .free ∧ (sc.names.lookup c = some .cell ∨ sc.names.lookup c = some .free) := by
  unfold capOk at h
  rw [Bool.and_eq_true, Bool.and_eq_true, List.all_eq_true, List.all_eq_true] at h
  obtain ⟨h, _⟩ := h
  refine ⟨fun y hy => ?_, fun k hk => ?_⟩
  · have := h.1 y hy
    simp only [Bool.and_eq_true, Bool.or_eq_true, bne_iff_ne, ne_eq, List.any_eq_true, beq_iff_eq] at this
    obtain ⟨⟨a, b⟩, c⟩ := this
    exact ⟨a, fun q => b.resolve_left fun z => z q, fun q => c.resolve_left fun z => z q⟩
  · have := h.2 k hk
    split at this
    · rename_i c hc
      simp only [Bool.and_eq_true, Bool.or_eq_true, beq_iff_eq] at this
      exact ⟨c, hc, this.1, this.2⟩
    · exact ff this
theorem capOk_cq (h : capOk scope sc xs ks = true) : codeOf (relS scope sc) = none := by
  unfold capOk at h
  rw [Bool.and_eq_true] at h
  exact Option.isNone_iff_eq_none.mp h.2
theorem known_get (h : knownAll ρ ks = true) {k : Nat} (hk : k ∈ ks) : ∃ d, ρ[k]? = some (some d) := by
  have := List.all_eq_true.mp h k hk
  split at this
  · rename_i d hd; exact ⟨d, hd⟩
  · exact ff this
/-- where the captured names lie -/
theorem cap_cells {h : Heap} {X : Addr → Prop} (ok : capOk scope sc xs ks = true) (kn : knownAll ρ ks = true) (va : Vars sc env h X xs ρ) :
    ∃ cl, closureFor scope env = pure cl ∧ ∀ k ∈ ks, ∃ (z : Str) (d : V) (c : Addr) (v : Value), xs[k]? = some z ∧ ρ[k]? = some (some d) ∧ scope.names.lookup z = some .free ∧ cl.lookup z = some c ∧ c ≠ 365 ∧ c ≠ 360 ∧ h.IsCell c (some v) ∧ Rep h X v d := by
  obtain ⟨o1, o2⟩ := capOk_split ok
  have get : ∀ k ∈ ks, ∃ (z : Str) (d : V) (c : Addr) (v : Value), xs[k]? = some z ∧ ρ[k]? = some (some d) ∧ scope.names.lookup z = some .free ∧ env.cells.lookup z = some c ∧ c ≠ 365 ∧ c ≠ 360 ∧ h.IsCell c (some v) ∧ Rep h X v d := fun k hk => by
    obtain ⟨z, hz, hf, hs⟩ := o2 k hk
    obtain ⟨d, hd⟩ := known_get kn hk
    rcases va k z d hz hd with ⟨a, _⟩ | ⟨a, c, v, e, n1, n2, i, r, _⟩
    · rw [a] at hs; rcases hs with hs | hs <;> cases hs
    · exact ⟨z, d, c, v, hz, hd, hf, e, n1, n2, i, r⟩
  obtain ⟨cl, e, q⟩ := closure_of (scope := scope) (env := env) fun y hy hf => by
    obtain ⟨k, hk, hz⟩ := (o1 y hy).2.1 hf
    obtain ⟨z, d, c, v, h1, _, _, h2, _⟩ := get k hk
    rw [hz] at h1; cases h1
    exact ⟨c, h2⟩
  refine ⟨cl, e, fun k hk => ?_⟩
  obtain ⟨z, d, c, v, a1, a2, a3, a4, a5⟩ := get k hk
  exact ⟨z, d, c, v, a1, a2, a3, by rw [q z a3]; exact a4, a5⟩
theorem capNames_get {i : Nat} {z : Str} (e : (capNames xs ks)[i]? = some z) : ∃ k, ks[i]? = some k ∧ z = xs.getD k "" := by
  unfold capNames at e
  rw [List.getElem?_map, Option.map_eq_some_iff] at e
  obtain ⟨k, h1, h2⟩ := e
  exact ⟨k, h1, h2.symm⟩
theorem capDat_get {i : Nat} {d : V} (e : (capDat ρ ks)[i]? = some (some d)) : ∃ k, ks[i]? = some k ∧ ρ.getD k none = some d := by
  unfold capDat at e
  rw [List.getElem?_map, Option.map_eq_some_iff] at e
  exact e
theorem vars_comp {h h' : Heap} (hcq : codeOf (relS scope sc) = none) {X X' : Addr → Prop} {m : Str → Option Value} {v : Value} {d : V} (hx : scope.names.lookup x = some .local) (hs : env.scope = sc)
    (cells : ∀ k ∈ ks, ∃ (z : Str) (d : V) (c : Addr) (v : Value), xs[k]? = some z ∧ ρ[k]? = some (some d) ∧ scope.names.lookup z = some .free ∧ cl.lookup z = some c ∧ c ≠ 365 ∧ c ≠ 360 ∧ h.IsCell c (some v) ∧ Rep h X v d)
    (keep : ∀ b o, b ≠ 365 → b ≠ 360 → h.get? b = some o → h'.get? b = some o) (nX : ∀ b o, h.get? b = some o → Av X b → Av X' b) (hn : h'.Ns C m) (hm : m x = some v) (rv : Rep h' X' v d) :
    Vars (relS scope sc) (compEnvC scope cl C env) h' X' (x :: capNames xs ks) (some d :: capDat ρ ks) := by
  intro i z e h1 h2
  cases i with
  | zero =>
    cases h1; cases h2
    exact .inl ⟨relS_local hx, m, v, hn, hm, rv⟩
  | succ i =>
    obtain ⟨k, k1, k2⟩ := capNames_get (by simpa using h1)
    obtain ⟨k', k3, k4⟩ := capDat_get (by simpa using h2)
    rw [k1] at k3; cases k3
    obtain ⟨z', d', c, u, a1, a2, a3, a4, a5, a6, ⟨o, i1, i2⟩, a8⟩ := cells k (List.mem_of_getElem? k1)
    rw [List.getD_eq_getElem?_getD, a1] at k2
    rw [List.getD_eq_getElem?_getD, a2] at k4
    simp only [Option.getD_some] at k2 k4
    subst k2; cases k4
    exact .inr ⟨relS_free a3, c, u, a4, a5, a6, ⟨o, keep c o a5 a6 i1, i2⟩, a8.imp (fun b o e av => ⟨keep b o av.2.1 av.2.2 e, nX b o e av⟩), fun q => (q hcq).elim⟩
end

/-- the tests of a comprehension -/
noncomputable def EvTs (K : Frag) (p : Program) (w : World) (n : Nat) (sc : Scope) (xs : List Str) (ρ : List (Option V)) : List Expr → Bool → Prop
  | [], b => b = true
  | [c], b => Evt K p w n sc xs ρ c b
  | _, _ => False

section
variable {xs : List Str} {ρ : List (Option V)} {scope : Scope} {env : Env} {x : Str} {ks : List Nat} {cl : List (Str × Addr)}
theorem comp_block {α : Type} {A : Around} {E : Value → Shared → Prop} {elt iter t : Expr} {px pos : Pos} {ifs : List Expr} {as : List α} {gv : α → V} {pt : α → Bool} {f : α → V} {X : Addr → Prop} {s₂ : Shared} {hb : Heap} {it : Value} {wr fp : List Addr} {St : Nat → Heap → Prop}
    {RR : Value → Addr → Result → Shared → Prop}
    (r : Rm n A) (eo : EnvOk sc env) (wd : Wd K hb) (lv : Live K X hb) (va : Vars sc env hb X xs ρ) (l : Le X hb s₂.heap) (wn : ∀ b ∈ wr, hb.get? b = none)
    (src : Src K p w A false X t s₂.heap it wr fp St (as.map gv)) (hsz : as.length ≤ sizeLine)
    (ok : capOk scope sc xs ks = true) (kd : scope.kind = .function) (hx : scope.names.lookup x = some .local)
    (cells : ∀ k ∈ ks, ∃ (z : Str) (d : V) (c : Addr) (v : Value), xs[k]? = some z ∧ ρ[k]? = some (some d) ∧ scope.names.lookup z = some .free ∧ cl.lookup z = some c ∧ c ≠ 365 ∧ c ≠ 360 ∧ hb.IsCell c (some v) ∧ Rep hb X v d)
    (ht : ∀ a ∈ as, EvTs K p w n (relS scope sc) (x :: capNames xs ks) (some (gv a) :: capDat ρ ks) ifs (pt a))
    (he : ∀ a ∈ as, pt a = true → Evs K p w n (relS scope sc) (x :: capNames xs ks) (some (gv a) :: capDat ρ ks) elt false (f a))
    (hRR : ∀ D C h' tk m' (ys : Array Value) (k : Nat), s₂.heap.get? D = none → s₂.heap.get? C = none → D ≠ C → h'.Ns C m' → h'.get? D = some { cls := .type "list", data := .seq ys k } → RepL h' (fun a => X a ∨ a ∈ wr ∨ a = D ∨ a = C) ys.toList ((as.filter pt).map f) → Le X hb h' → Tabs (fun a => X a ∨ a ∈ wr ∨ a = D ∨ a = C) h' → (h'.get? C).isSome →
      RR (.ref D) C (.ok .next) { s₂ with heap := h', toks := tk }) :
    wpAny (model p w) A (newList []) (fun acc s₃ => wpAny (model p w) A (newFunctionEnv scope env.globals cl [] env.qual none .none (some env)) (fun cenv s₄ =>
      codeAny (model p w) A (.compStart (.ListComp elt [⟨.Name x px, iter, ifs, 0⟩] scope pos) 0 it acc { cenv with scope := relabel scope env }) (RR acc cenv.locals) s₄) E s₃) E s₂ := by
  obtain ⟨o1, _⟩ := capOk_split ok
  refine wpAny_newObj_type (wpAny_newFunctionEnv (fun y hy => (o1 y hy).1) (by intro y hy; simp at hy) (fun h₁ hns₁ hsb₁ => ?_) kd)
  dsimp only at hns₁ hsb₁ ⊢
  generalize hH2 : s₂.heap.push { cls := .type "list", dict := none, data := .seq ([] : List Value).toArray } = H2 at hns₁ hsb₁ ⊢
  generalize hD : s₂.heap.objs.size = D
  generalize hCd : H2.objs.size = C at hns₁ hsb₁ ⊢
  have hC : C = s₂.heap.objs.size + 1 := by rw [← hCd, ← hH2, Heap.size_push]
  have gD : s₂.heap.get? D = none := hD ▸ get?_size _
  have gC : s₂.heap.get? C = none := by
    cases e : s₂.heap.get? C with
    | none => rfl
    | some o => have := Heap.lt_size e; rw [hC] at this; exact absurd this (Nat.not_lt.mpr (Nat.le_succ _))
  have hDC : D ≠ C := by rw [hC, ← hD]; exact Nat.ne_of_lt (Nat.lt_succ_self _)
  have old : ∀ b o, s₂.heap.get? b = some o → h₁.get? b = some o := fun b o e => hsb₁.extBut b o (by rintro rfl; rw [gC] at e; exact nn e) (Heap.get?_push_of_some _ (hH2 ▸ Heap.get?_push_of_some _ e))
  have accD : h₁.get? D = some { cls := .type "list", data := .seq #[] } := hsb₁.extBut _ _ hDC (Heap.get?_push_of_some _ (by rw [← hH2, ← hD]; exact Heap.get?_push_size _ rfl))
  have l₁ : Le X s₂.heap h₁ := .of_keep old
  have gDb : hb.get? D = none := fresh_at l gD
  have gCb : hb.get? C = none := fresh_at l gC
  have nwr : ∀ b, s₂.heap.get? b = none → b ∉ wr := fun b e hb => by have := src.alive 0 _ src.st b hb; rw [e] at this; exact ff this
  have fpC : ∀ b, s₂.heap.get? b = none → b ∉ fp := fun b e hb => by
    rcases src.fpOk b hb with q | ⟨o, q⟩
    · exact nwr b e q
    · rw [q.1.2.2] at e; exact nn e.symm
  let X' : Addr → Prop := fun a => X a ∨ a ∈ wr ∨ a = D ∨ a = C
  have nX : ∀ b o, hb.get? b = some o → Av X b → Av X' b := fun b o e av => by
    refine ⟨fun z => ?_, av.2⟩
    rcases z with z | z | z | z
    · exact av.1 z
    · rw [wn b z] at e; exact nn e
    · rw [z, gDb] at e; exact nn e
    · rw [z, gCb] at e; exact nn e
  have kN : ∀ b, hb.get? b = none → K.lookup b = none := fun b e => by
    cases q : K.lookup b with
    | none => rfl
    | some o => have := wd.k b o q; rw [e] at this; exact nn this
  have n365 : C ≠ 365 ∧ C ≠ 360 := ⟨fun z => (by have := lv.1.1; rw [← z, gCb] at this; exact ff this), fun z => (by have := lv.1.2.1; rw [← z, gCb] at this; exact ff this)⟩
  have hsc : relabel scope env = relS scope sc := relabel_eq eo.sco
  have eo' : EnvOk (relS scope sc) (compEnvC scope cl C env) := ⟨hsc, eo.gl, eo.bi, kd, n365.1, n365.2, fun q z => by rw [capOk_cq ok] at z; exact nn z⟩
  have hkind : (compEnvC scope cl C env).kindOf x = some .local := by
    show (relabel scope env).names.lookup x = _
    rw [hsc]; exact relS_local hx
  have tabs₁ : Tabs X' h₁ := src.tabs.imp (fun o e => old _ o e) (fun o e => old _ o e) fun b o _ e _ av => ⟨old b o e, fun z => by
    rcases z with z | z | z | z
    · exact av.1 (.inl z)
    · exact av.1 (.inr z)
    · rw [z, gD] at e; exact nn e
    · (rw [z, gC] at e; exact nn e), av.2⟩
  have main : ∀ s₃ : Shared, s₃ = { s₂ with heap := h₁, toks := s₂.toks + ([] : List (Str × Value)).length } →
      codeAny (model p w) A (.compLoop (.ListComp elt [⟨.Name x px, iter, ifs, 0⟩] scope pos) 0 it (.ref D) (compEnvC scope cl C env)) (RR (.ref D) C) s₃ := by
    rintro s₃ rfl
    refine codeAny_compLoop_tests (fun k s' => ∃ (j : Nat) (h' : Heap) (tk : Nat) (m' : Str → Option Value) (ys : Array Value) (q : Nat), s' = { s₂ with heap := h', toks := tk } ∧ k = as.length + 1 - j ∧ j ≤ as.length ∧ St j h' ∧ h'.get? D = some { cls := .type "list", data := .seq ys q } ∧
        RepL h' X' ys.toList (((as.take j).filter pt).map f) ∧ h'.Ns C m' ∧ Le X hb h' ∧ Tabs X' h' ∧ (∀ b o, Base s₂.heap X wr b o → h'.get? b = some o) ∧ (∀ b ∈ wr, (h'.get? b).isSome)) (fun k s' hI => ?_) (as.length + 1)
      ⟨0, h₁, _, _, #[], 0, rfl, rfl, Nat.zero_le _, src.frame _ _ _ src.st (fun b _ o e => old b o e), accD, .nil, hns₁, l.trans l₁, tabs₁, fun b o q => old b o q.1.2.2, fun b hb => l₁.live b (src.alive 0 _ src.st b hb)⟩ fun _ => rfl
    obtain ⟨j, h', tk, m', ys, q, rfl, rfl, hj, hst, hacc, hrep, hns, hle, htab, hbase, hal⟩ := hI
    have lX : ∀ h'' : Heap, Le X hb h'' → Tabs X' h'' → (h''.get? D).isSome → (h''.get? C).isSome → (∀ b ∈ wr, (h''.get? b).isSome) → Live K X' h'' := fun h'' l2 t2 a1 a2 a3 => by
      refine ⟨⟨(lv.le l2).1.1, (lv.le l2).1.2.1, fun a z => ?_⟩, t2⟩
      rcases z with z | z | rfl | rfl
      · exact (lv.le l2).1.2.2 a z
      · exact ⟨a3 a z, kN a (wn a z)⟩
      · exact ⟨a1, kN _ gDb⟩
      · exact ⟨a2, kN _ gCb⟩
    have nsC : ∀ {h'' : Heap} {m : Str → Option Value}, h''.Ns C m → (h''.get? C).isSome := fun n => by obtain ⟨o, _, _, e, _⟩ := n; rw [e]; rfl
    rcases Nat.lt_or_eq_of_le hj with hlt | rfl
    · obtain ⟨a, ha⟩ : ∃ a, as[j]? = some a := ⟨_, List.getElem?_eq_getElem hlt⟩
      have ham := List.mem_of_getElem? ha
      refine src.next0 (s := { s₂ with heap := h', toks := tk }) (Z := X') (fun v s₁ h => h) (by rw [List.getElem?_map, ha]; rfl) hst hbase (lX h' hle htab (by rw [hacc]; rfl) (nsC hns) hal) (fun b o q z => ?_) fun v h₂ tk₂ st₂ k₂ rv => ?_
      · rcases z with z | z | z | z
        · exact q.2.1 z
        · exact q.2.2 z
        · rw [← z, q.1.2.2] at gD; exact nn gD.symm
        · rw [← z, q.1.2.2] at gC; exact nn gC.symm
      refine wpAny_assign_Name (wpAny_storeName_local hkind (Ns.le hns fun o e => k₂ _ o (nwr C gC) e) (fun h₃ hn₃ hs₃ => ?_) (by show (scope.kind == _ || (scope.kind == _ && _)) = false; rw [kd]; rfl))
      have sb₃ : ∀ b o, b ≠ C → h₂.get? b = some o → h₃.get? b = some o := fun b o hb e => (hs₃.2 b hb).trans e
      have k₃ : ∀ b o, b ∉ wr → b ≠ C → h'.get? b = some o → h₃.get? b = some o := fun b o h1 h2 e => sb₃ b o h2 (k₂ b o h1 e)
      have tabs₃ : Tabs X' h₃ := htab.imp (fun o e => k₃ 365 o (fun z => by have := lv.1.1; rw [wn _ z] at this; exact ff this) (Ne.symm n365.1) e) (fun o e => k₃ 360 o (fun z => by have := lv.1.2.1; rw [wn _ z] at this; exact ff this) (Ne.symm n365.2) e) fun b o _ e _ av => ⟨k₃ b o (fun z => av.1 (.inr (.inl z))) (fun z => av.1 (.inr (.inr (.inr z)))) e, av⟩
      have le₃ : Le X hb h₃ := by
        have kk : ∀ b o, b ≠ 365 → b ≠ 360 → hb.get? b = some o → h₃.get? b = some o := fun b o n1 n2 e => k₃ b o (fun z => by rw [wn b z] at e; exact nn e) (fun z => by rw [z, gCb] at e; exact nn e) (hle.keep b o n1 n2 e)
        refine ⟨kk, fun b e => ?_, fun _ => tabs₃.mono fun _ z => .inl z⟩
        obtain ⟨o, e1⟩ := Option.isSome_iff_exists.mp (hle.live b e)
        rw [k₃ b o (fun z => by rw [wn b z] at e; exact ff e) (fun z => by rw [z, gCb] at e; exact ff e) e1]; rfl
      have base₃ : ∀ b o, Base s₂.heap X wr b o → h₃.get? b = some o := fun b o q => k₃ b o q.2.2 (fun z => by have := q.1.2.2; rw [z, gC] at this; exact nn this) (hbase b o q)
      have al₃ : ∀ b ∈ wr, (h₃.get? b).isSome := fun b hb => by
        obtain ⟨o, e1⟩ := Option.isSome_iff_exists.mp (src.alive _ _ st₂ b hb)
        rw [sb₃ b o (fun z => nwr C gC (z ▸ hb)) e1]; rfl
      have st₃ : St (j + 1) h₃ := src.frame _ _ _ st₂ fun b hb o e => sb₃ b o (fun z => fpC C gC (z ▸ hb)) e
      have acc₃ : h₃.get? D = some { cls := .type "list", data := .seq ys q } := k₃ D _ (nwr D gD) hDC hacc
      have X'wr : ∀ b, b ∈ wr → X' b := fun b z => .inr (.inl z)
      have X'C : X' C := .inr (.inr (.inr rfl))
      have X'D : X' D := .inr (.inr (.inl rfl))
      have rv₃ : Rep h₃ X' v (gv a) := rv.imp fun b o e av => ⟨sb₃ b o (fun z => av.1 (z ▸ X'C)) e, av⟩
      have rep₃ : RepL h₃ X' ys.toList (((as.take j).filter pt).map f) := hrep.imp fun b o e av => ⟨k₃ b o (fun z => av.1 (X'wr b z)) (fun z => av.1 (z ▸ X'C)) e, av⟩
      have ns₃ : h₃.Ns C _ := hn₃
      have lx₃ : Live K X' h₃ := lX h₃ le₃ tabs₃ (by rw [acc₃]; rfl) (nsC ns₃) al₃
      have vv : ∀ h₄ : Heap, Le X' h₃ h₄ → Vars (relS scope sc) (compEnvC scope cl C env) h₄ X' (x :: capNames xs ks) (some (gv a) :: capDat ρ ks) := fun h₄ l₄ =>
        vars_comp (capOk_cq ok) hx eo.sco cells (fun b o n1 n2 e => l₄.keep b o n1 n2 (le₃.keep b o n1 n2 e)) nX (Ns.le ns₃ fun o e => l₄.keep _ o n365.1 n365.2 e) (if_pos rfl) (rv₃.le l₄)
      have tests : ∀ (E' : Value → Shared → Prop) (Q' : Bool → Shared → Prop) (tk' : Nat), (∀ h₄ tk₄, Le X' h₃ h₄ → Q' (pt a) { s₂ with heap := h₄, toks := tk₄ }) →
          wpAny (model p w) A (forIn ifs true fun c r => if r = true then do let ok ← isTrue c (compEnvC scope cl C env) (eval c (compEnvC scope cl C env)); pure (ForInStep.yield ok) else pure (ForInStep.yield r)) Q' E' { s₂ with heap := h₃, toks := tk' } := fun E' Q' tk' hq => by
        have hta := ht a ham
        match ifs, hta with
        | [], e => exact wpAny_tests_nil (by rw [show pt a = true from e] at hq; exact hq h₃ tk' (.refl _))
        | [c], e => exact wpAny_tests_one (e A E' { s₂ with heap := h₃, toks := tk' } X' _ _ r eo' (wd.le le₃) lx₃ (vv h₃ (.refl _)) fun h₄ tk₄ l₄ => hq h₄ tk₄ l₄)
      refine tests _ _ _ fun h₄ tk₄ l₄ => ?_
      have take : as.take (j + 1) = as.take j ++ [a] := by rw [List.take_add_one, ha]; rfl
      have fin : ∀ (h₅ : Heap) (tk₅ : Nat) (ys' : Array Value) (q' : Nat), h₅.get? D = some { cls := .type "list", data := .seq ys' q' } → (∀ b o, b ≠ D → b ≠ 365 → b ≠ 360 → h₃.get? b = some o → h₅.get? b = some o) → (∀ b, (h₃.get? b).isSome → (h₅.get? b).isSome) → Tabs X' h₅ →
          RepL h₅ X' ys'.toList (((as.take (j + 1)).filter pt).map f) → ∃ m, m < as.length + 1 - j ∧ ∃ (j : Nat) (h' : Heap) (tk : Nat) (m' : Str → Option Value) (ys : Array Value) (q : Nat), ({ s₂ with heap := h₅, toks := tk₅ } : Shared) = { s₂ with heap := h', toks := tk } ∧ m = as.length + 1 - j ∧ j ≤ as.length ∧ St j h' ∧ h'.get? D = some { cls := .type "list", data := .seq ys q } ∧
        RepL h' X' ys.toList (((as.take j).filter pt).map f) ∧ h'.Ns C m' ∧ Le X hb h' ∧ Tabs X' h' ∧ (∀ b o, Base s₂.heap X wr b o → h'.get? b = some o) ∧ (∀ b ∈ wr, (h'.get? b).isSome) := fun h₅ tk₅ ys' q' a5 k5 v5 t5 r5 => by
        refine ⟨as.length + 1 - (j + 1), by omega, j + 1, h₅, tk₅, _, ys', q', rfl, rfl, hlt, ?_, a5, r5, Ns.le ns₃ fun o e => k5 _ o (Ne.symm hDC) n365.1 n365.2 e, ⟨fun b o n1 n2 e => k5 b o (fun z => by rw [z, gDb] at e; exact nn e) n1 n2 (le₃.keep b o n1 n2 e), fun b e => v5 b (le₃.live b e), fun _ => t5.mono fun _ z => .inl z⟩, t5, fun b o q => k5 b o (fun z => by have := q.1.2.2; rw [z, gD] at this; exact nn this) q.1.1 q.1.2.1 (base₃ b o q), fun b hb => v5 b (al₃ b hb)⟩
        refine src.frame _ _ _ st₃ fun b hb o e => ?_
        refine k5 b o (fun z => fpC D gD (z ▸ hb)) ?_ ?_ e
        · rcases src.fpOk b hb with z | ⟨o', z⟩
          · intro z'; have := lv.1.1; rw [← z', wn b z] at this; exact ff this
          · exact z.1.1
        · rcases src.fpOk b hb with z | ⟨o', z⟩
          · intro z'; have := lv.1.2.1; rw [← z', wn b z] at this; exact ff this
          · exact z.1.2.1
      have acc₄ : h₄.get? D = some { cls := .type "list", data := .seq ys q } := l₄.keep D _ (fun z => by have := lv.1.1; rw [← z, gDb] at this; exact ff this) (fun z => by have := lv.1.2.1; rw [← z, gDb] at this; exact ff this) acc₃
      cases hpt : pt a with
      | false =>
        simp only [Bool.false_eq_true, if_false]
        refine fin h₄ tk₄ ys q acc₄ (fun b o _ n1 n2 e => l₄.keep b o n1 n2 e) l₄.live (l₄.tab tabs₃) ?_
        rw [take, List.filter_append]
        simpa [hpt] using rep₃.le l₄
      | true =>
        simp only [if_true]
        refine (he a ham hpt).weak A _ { s₂ with heap := h₄, toks := tk₄ } X' _ _ r eo' ((wd.le le₃).le l₄) (lx₃.le l₄) (vv h₄ l₄) fun y h₅ tk₅ l₅ ry _ => ?_
        have acc₅ : h₅.get? D = some { cls := .type "list", data := .seq ys q } := l₅.keep D _ (fun z => by have := lv.1.1; rw [← z, gDb] at this; exact ff this) (fun z => by have := lv.1.2.1; rw [← z, gDb] at this; exact ff this) acc₄
        have hys : ys.size ≤ sizeLine := by
          have := rep₃.length
          rw [Array.length_toList, List.length_map] at this
          have h2 := List.length_filter_le pt (as.take j)
          have h3 := List.length_take_le j as
          omega
        refine wpAny_list_append_plain (s := { s₂ with heap := h₅, toks := tk₅ }) ⟨q, acc₅⟩ (fun h₆ ⟨q', a6⟩ hs₆ => ?_) hys
        have nD6 : 365 ≠ D ∧ 360 ≠ D := ⟨fun z => (by have := lv.1.1; rw [z, gDb] at this; exact ff this), fun z => (by have := lv.1.2.1; rw [z, gDb] at this; exact ff this)⟩
        have sb₆ : ∀ b o, b ≠ D → h₅.get? b = some o → h₆.get? b = some o := fun b o hb e => (hs₆.2 b hb).trans e
        refine fin h₆ tk₅ _ q' a6 (fun b o hb n1 n2 e => sb₆ b o hb (l₅.keep b o n1 n2 (l₄.keep b o n1 n2 e))) (fun b e => ?_) ((l₅.tab (l₄.tab tabs₃)).imp (fun o e => sb₆ 365 o nD6.1 e) (fun o e => sb₆ 360 o nD6.2 e) fun b o _ e _ av => ⟨sb₆ b o (fun z => av.1 (z ▸ X'D)) e, av⟩) ?_
        · by_cases hbD : b = D
          · rw [hbD, a6]; rfl
          · obtain ⟨o, e1⟩ := Option.isSome_iff_exists.mp (l₅.live b (l₄.live b e))
            rw [sb₆ b o hbD e1]; rfl
        · rw [take, List.filter_append, Array.toList_push]
          have r6 : ∀ b o, h₅.get? b = some o → Av X' b → h₆.get? b = some o ∧ Av X' b := fun b o e av => ⟨sb₆ b o (fun z => av.1 (z ▸ X'D)) e, av⟩
          have := (((rep₃.le l₄).le l₅).imp r6).snoc (ry.imp r6)
          simpa [hpt] using this
    · refine src.end (s := { s₂ with heap := h', toks := tk }) (by rw [List.length_map]; exact hst) fun h₂ tk₂ k₂ => ?_
      have nD := nwr D gD
      have nC := nwr C gC
      rw [List.take_of_length_le (Nat.le_refl _)] at hrep
      have kk : ∀ b o, b ≠ 365 → b ≠ 360 → hb.get? b = some o → h₂.get? b = some o := fun b o n1 n2 e => k₂ b o (fun z => by rw [wn b z] at e; exact nn e) (hle.keep b o n1 n2 e)
      have tabs₂ : Tabs X' h₂ := htab.imp (fun o e => k₂ 365 o (fun z => by have := lv.1.1; rw [wn _ z] at this; exact ff this) e) (fun o e => k₂ 360 o (fun z => by have := lv.1.2.1; rw [wn _ z] at this; exact ff this) e) fun b o _ e _ av => ⟨k₂ b o (fun z => av.1 (.inr (.inl z))) e, av⟩
      refine hRR D C h₂ tk₂ m' ys q gD gC hDC (Ns.le hns fun o e => k₂ _ o nC e) (k₂ D _ nD hacc) (hrep.imp fun b o e av => ⟨k₂ b o (fun z => av.1 (.inr (.inl z))) e, av⟩) ⟨kk, fun b e => ?_, fun _ => tabs₂.mono fun _ z => .inl z⟩ tabs₂ ?_
      · obtain ⟨o, e1⟩ := Option.isSome_iff_exists.mp (hle.live b e)
        rw [k₂ b o (fun z => by rw [wn b z] at e; exact ff e) e1]; rfl
      · obtain ⟨o, e1⟩ := Option.isSome_iff_exists.mp (nsC hns)
        rw [k₂ C o nC e1]; rfl
  have st₁ : St 0 h₁ := src.frame _ _ _ src.st fun b _ o e => old b o e
  exact codeAny_compStart_list (main _ rfl) (src.self 0 _ _ _ st₁ (main _ rfl))
end

section
variable {xs : List Str} {scope : Scope} {x : Str}
theorem Evs.comp {ρ : List (Option V)} {α : Type} {elt iter : Expr} {px pos : Pos} {ifs : List Expr} {as : List α} {gv : α → V} {pt : α → Bool} {f : α → V} {fr : Bool} (ks : List Nat)
    (hit : IterEv K p w n sc xs ρ false (.Name x px) iter (as.map gv)) (hsz : as.length ≤ sizeLine)
    (ht : ∀ a ∈ as, EvTs K p w n (relS scope sc) (x :: capNames xs ks) (some (gv a) :: capDat ρ ks) ifs (pt a))
    (he : ∀ a ∈ as, pt a = true → Evs K p w n (relS scope sc) (x :: capNames xs ks) (some (gv a) :: capDat ρ ks) elt false (f a))
    (kn : knownAll ρ ks = true := by rfl) (ok : capOk scope sc xs ks = true := by rfl) (kd : scope.kind = .function := by rfl) (hx : scope.names.lookup x = some .local := by rfl) (hs : ∀ env x, foldedSetIterable iter env x = pure x := by intro _ _; rfl) :
    Evs K p w n sc xs ρ (.ListComp elt [⟨.Name x px, iter, ifs, 0⟩] scope pos) fr (.list ((as.filter pt).map f)) :=
  fun A E s X env Q r eo wd lv va po => by
    obtain ⟨cl, hcl, cells⟩ := cap_cells ok kn va
    obtain ⟨o1, _⟩ := capOk_split ok
    rw [eval_ListComp]
    refine wpAny_comprehension_free (use := none) rfl (hs env) hcl kd (fun y hy => (o1 y hy).2.2) (hit A E s X env _ r eo wd lv va fun it h₀ tk₀ wr fp St l wn src => ?_)
    refine comp_block (s₂ := { s with heap := h₀, toks := tk₀ }) (RR := fun acc C => compPost (model p w) A E none Q acc C) r eo wd lv va l wn src hsz ok kd hx cells ht he fun D C h' tk m' ys k gD gC hDC hn acc rep le tb alC => ?_
    refine ⟨m', hn, fun h'' sb => ?_⟩
    have gDb := fresh_at l gD
    have gCb := fresh_at l gC
    have kk : ∀ b o, b ≠ C → h'.get? b = some o → h''.get? b = some o := fun b o hb e => (sb.2 b hb).trans e
    have nC6 : 365 ≠ C ∧ 360 ≠ C := ⟨fun z => (by have := lv.1.1; rw [z, gCb] at this; exact ff this), fun z => (by have := lv.1.2.1; rw [z, gCb] at this; exact ff this)⟩
    have tb2 : Tabs X h'' := tb.imp (fun o e => kk 365 o nC6.1 e) (fun o e => kk 360 o nC6.2 e) fun b o _ e _ av => ⟨kk b o (fun z => av.1 (.inr (.inr (.inr z)))) e, av.mono fun _ z => .inl z⟩
    have l2 : Le X s.heap h'' := ⟨fun b o n1 n2 e => kk b o (fun z => by rw [z, gCb] at e; exact nn e) (le.keep b o n1 n2 e), fun b e => by
      by_cases hb : b = C
      · rw [hb, gCb] at e; exact ff e
      · obtain ⟨o, e1⟩ := Option.isSome_iff_exists.mp (le.live b e)
        rw [kk b o hb e1]; rfl, fun _ => tb2⟩
    have acc2 := kk D _ hDC acc
    refine po (.ref D) h'' tk l2 (.list acc2 rfl rfl (lv.new gDb) (rep.imp fun b o e av => ⟨kk b o (fun z => av.1 (.inr (.inr (.inr z)))) e, av.mono fun _ z => .inl z⟩)) (fun _ => fresh_seq (fun o q => by have := q.2.2; rw [gDb] at this; exact nn this) acc2 rfl)

theorem swaps_yes {elt : Expr} {gens : List Comprehension} {pos py : Pos} {l : Nat} {y : Str} {env : Env} (eo : EnvOk sc env) (hy : sc.names.lookup y = some .local) (hl : (py.line == pos.line) = true) (hc : (scope.names.any fun q => q.1 == y && (q.2 == .local || q.2 == .cell)) = false) :
    swapsWith (.ListComp elt gens scope pos) (some (.Name y py)) l env = pure true := by
  show pure (env.blockKind == .function && env.kindOf y == some .local && py.line == pos.line && !(scope.names.any fun q => q.1 == y && (q.2 == .local || q.2 == .cell))) = _
  have h1 : env.blockKind = .function := by
    unfold Env.blockKind
    rw [eo.sco, eo.kd]; rfl
  have h2 : env.kindOf y = some .local := by unfold Env.kindOf; rw [eo.sco]; exact hy
  rw [h1, h2, hl, hc]; rfl
/-- y = [.. for x in ..] -/
theorem Tr1.assignComp {ρ : List Ent} {α : Type} {elt iter : Expr} {px py pos spos : Pos} {ifs : List Expr} {as : List α} {gv : α → V} {pt : α → Bool} {f : α → V} {y : Str} {Ψ : PostR} {i : Nat} (ks : List Nat)
    (hit : IterEv K p w n sc xs (hid ρ) false (.Name x px) iter (as.map gv)) (hsz : as.length ≤ sizeLine)
    (ht : ∀ a ∈ as, EvTs K p w n (relS scope sc) (x :: capNames xs ks) (some (gv a) :: capDat (hid ρ) ks) ifs (pt a))
    (he : ∀ a ∈ as, pt a = true → Evs K p w n (relS scope sc) (x :: capNames xs ks) (some (gv a) :: capDat (hid ρ) ks) elt false (f a))
    (hi : xs[i]? = some y) (hy : sc.names.lookup y = some .local := by rfl) (hl : (py.line == pos.line) = true := by rfl) (hc : (scope.names.any fun q => q.1 == y && (q.2 == .local || q.2 == .cell)) = false := by rfl)
    (kn : knownAll (hid ρ) ks = true := by rfl) (ok : capOk scope sc xs ks = true := by rfl) (kd : scope.kind = .function := by rfl) (hx : scope.names.lookup x = some .local := by rfl) (hnf : noFree sc = true := by rfl) (hs : ∀ env x, foldedSetIterable iter env x = pure x := by intro _ _; rfl) :
    Tr1 K p w n sc cm xs ρ (.Assign [.Name y py] (.ListComp elt [⟨.Name x px, iter, ifs, 0⟩] scope pos) spos) (· = ρ.set i (some (false, .list ((as.filter pt).map f)))) Ψ :=
  fun A E s KP Y env oa Q r eo kp S qn qr => by
    have va := S.hid' (xs := xs) nmOk preRefl
    obtain ⟨cl, hcl, cells⟩ := cap_cells ok kn va
    obtain ⟨o1, _⟩ := capOk_split ok
    show wpAny _ A (exec (.Assign [.Name y py] (.ListComp elt [⟨.Name x px, iter, ifs, 0⟩] scope pos) spos) env) _ _ _
    rw [exec_Assign_Name_used _ _ _ _ (swaps_yes eo hy hl hc)]
    refine wpAny_bind (wpAny_standAt (wpAny_bind ?_))
    show wpAny _ A (do let _ ← comprehension (.ListComp elt [⟨.Name x px, iter, ifs, 0⟩] scope pos) scope env _ (newList []) false (eval iter env) (some (PySem.assign (.Name y py) env))) _ _ s
    refine wpAny_bind (wpAny_mono (wpAny_comprehension_free (use := some (PySem.assign (.Name y py) env)) (Q := fun _ s' => Q .next s') rfl (hs env) hcl kd (fun y hy => (o1 y hy).2.2)
      (hit A E s _ env _ r eo S.world S.liveX va fun it h₀ tk₀ wr fp St l wn src => ?_)) (fun _ s' hq => wpAny_pure (wpAny_pure hq)) fun _ _ e => e)
    refine comp_block (s₂ := { s with heap := h₀, toks := tk₀ }) (RR := fun acc C => compPost (model p w) A E (some (PySem.assign (.Name y py) env)) (fun _ s' => Q .next s') acc C) r eo S.world S.liveX va l wn src hsz ok kd hx cells ht he fun D C h' tk m' ys k gD gC hDC hn acc rep le tb alC => ?_
    have gDb := fresh_at l gD
    have gCb := fresh_at l gC
    show wpAny _ A (PySem.assign (.Name y py) env (.ref D)) _ _ _
    have S1 := S.grow (wr := [C]) kp (le.toL eo.l1 eo.l2) (fun b hb => by simp at hb; rw [hb]; exact gCb) (fun b hb => by simp at hb; rw [hb]; exact alC) (tb.mono fun b z => z.elim .inl fun z => by simp at z; exact .inr (.inr (.inr z)))
    have lX : Live K (Xs cm Y env ρ oa) s.heap := S.liveX
    have rD : Rep h' (Xs cm (fun a => Y a ∨ a ∈ [C]) env ρ oa) (.ref D) (.list ((as.filter pt).map f)) := by
      have av := lX.new gDb
      refine .list acc rfl rfl ⟨fun z => ?_, av.2⟩ (rep.sub fun b z => ?_)
      · rcases z with (z | z) | z
        · exact av.1 (.inl z)
        · simp at z; exact hDC z
        · exact av.1 (.inr z)
      · rcases z with (z | z) | z
        · exact .inl (.inl z)
        · simp at z; exact .inr (.inr (.inr z))
        · exact .inl (.inr z)
    obtain ⟨oC, hoC⟩ := Option.isSome_iff_exists.mp alC
    have n6 : C ≠ 365 ∧ C ≠ 360 := ⟨fun z => (by have := S.live.1; rw [← z, gCb] at this; exact ff this), fun z => (by have := S.live.2.1; rw [← z, gCb] at this; exact ff this)⟩
    let KP2 : Addr → Obj → Prop := fun b o => KP b o ∨ (b = C ∧ o = oC)
    have S1' : Sn K sc cm KP2 (fun a => Y a ∨ a ∈ [C]) env xs ρ oa h' := by
      refine S1.re (fun b o q => ?_) (fun h' k => S.wd h' fun b o q => k b o (.inl q)) (fun _ q => q) fun b o q => ?_
      · rcases q with q | ⟨rfl, rfl⟩
        · exact S1.keep b o q
        · exact hoC
      · rcases q with q | ⟨rfl, rfl⟩
        · exact ⟨fun z => (S.fa b z).2.2.2.2.2 o q, fun ⟨i, d, e, z⟩ => (S.off i d e).2.2.2.2.2 o (z ▸ q)⟩
        · exact ⟨fun z => (by have := (S.fa _ z).1; rw [gCb] at this; exact ff this), fun z => (by have := (S.liveX.1.2.2 _ (.inr (.inr z))).1; rw [gCb] at this; exact ff this)⟩
    refine wpAny_assign_Name (stores_one (s := { s with heap := h', toks := tk }) eo (S1'.addFro rD) hi (.inl hy) fun h₂ oa₂ tk₂ S2' => ?_)
    have n2 : h₂.Ns C m' := Ns.le hn fun o e => by
      have := S2'.keep C oC (.inr ⟨rfl, rfl⟩)
      rw [hoC] at e; cases e; exact this
    have S2 : Sn K sc cm KP (fun a => Y a ∨ a ∈ [C]) env xs _ oa₂ h₂ := S2'.re (fun b o q => S2'.keep b o (.inl q)) S.wd (fun _ q => q) fun b o q => ⟨fun z => (S2'.fa b z).2.2.2.2.2 o (.inl q), fun ⟨i, d, e, z⟩ => (S2'.off i d e).2.2.2.2.2 o (.inl (z ▸ q))⟩
    refine ⟨m', n2, fun h₃ sb => qn _ oa₂ h₃ tk₂ rfl ?_⟩
    refine S2.touch (wr := [C]) (fun _ z => .inl z) ?_ (fun b o hb e => (sb.2 b fun z => hb (by simp [z])).trans e) (fun b hb z => ?_) (fun b hb => .inr hb) (fun b hb o q => ?_) (fun z c q e hb => ?_)
    · refine ⟨fun z => ?_, fun z => ?_⟩
      · simp at z; have := S.live.1; rw [z, gCb] at this; exact ff this
      · simp at z; have := S.live.2.1; rw [z, gCb] at this; exact ff this
    · simp at hb; have := (S.live.2.2 b z).1; rw [hb, gCb] at this; exact ff this
    · simp at hb; have := S.keep b o q; rw [hb, gCb] at this; exact nn this
    · simp at hb
      rcases q with q | q
      · obtain ⟨c', v₀, e', _, _, ⟨o, i1, _⟩⟩ := S.cex z q
        rw [e'] at e; cases e
        rw [hb, gCb] at i1; exact nn i1
      · exact noFree_lk hnf q
end
end Mine

-- B13
namespace Mine
variable {K : Frag} {p : Program} {w : World} {n : Nat} {sc : Scope} {cm : Bool} {xs : List Str} {ρ : List Ent}

noncomputable def Kp (h h' : Heap) : Prop := ∀ b o, b ≠ 365 → b ≠ 360 → h.get? b = some o → h'.get? b = some o
theorem Holds.keepK {env : Env} {h h' : Heap} {x : Slot} {v : Value} (eo : EnvOk sc env) (hh : Holds sc env h x v) (l : Kp h h') : Holds sc env h' x v := by
  cases x with
  | val u => exact hh
  | nm x =>
    rcases hh with ⟨a, m, n, e⟩ | ⟨a, c, e, n1, n2, ⟨o, i1, i2⟩⟩
    · exact .inl ⟨a, m, Ns.le n fun o e => l _ o eo.l1 eo.l2 e, e⟩
    · exact .inr ⟨a, c, e, n1, n2, ⟨o, l _ o n1 n2 i1, i2⟩⟩
/-- several right sides, one behind the other -/
noncomputable def RhsL (K : Frag) (p : Program) (w : World) (n : Nat) (sc : Scope) (cm : Bool) (xs : List Str) (ρ : List Ent) (es : List Expr) (l : List (Bool × V)) : Prop :=
  ∀ (A : Around) (E : Value → Shared → Prop) (s : Shared) (KP : Addr → Obj → Prop) (Y : Addr → Prop) (env : Env) (sl : List Slot) (ρt : List Ent) (oa : Nat → Addr) (pos : Pos) (Q : List Value → Shared → Prop),
    Rm n A → EnvOk sc env → KPok KP → NmOk sl xs → PreOk ρ ρt → Stt K sc cm KP Y env sl ρt oa s.heap →
    (∀ vs oa' h' tk, vs.length = l.length → Kp s.heap h' → Stt K sc cm KP Y env (sl ++ vs.map .val) (ρt ++ l.map some) oa' h' → Q vs { s with heap := h', toks := tk }) → wpAny (model p w) A (spliced (backTo pos (starEach es env))) Q E s
theorem RhsL.nil : RhsL K p w n sc cm xs ρ [] [] :=
  fun A E s KP Y env sl ρt oa pos Q r eo kp nm pre S q => wpAny_items_nil (q [] oa s.heap s.toks rfl (fun _ _ _ _ e => e) (by simpa using S))
theorem NmOk.app {sl : List Slot} {v : Value} (nm : NmOk sl xs) : NmOk (sl ++ [.val v]) xs := fun i x e => by
  have := nm i x e
  rw [List.getElem?_append_left (List.getElem?_eq_some_iff.mp this).1]; exact this
theorem PreOk.app {ρt : List Ent} {e : Ent} (pre : PreOk ρ ρt) : PreOk ρ (ρt ++ [e]) := fun i x h => by
  have := pre i x h
  rw [List.getElem?_append_left (List.getElem?_eq_some_iff.mp this).1]; exact this
theorem RhsL.cons {e : Expr} {es : List Expr} {o : Bool} {d : V} {l : List (Bool × V)} (h : Rhs K p w n sc cm xs ρ e o d) (t : RhsL K p w n sc cm xs ρ es l) (u : unstar e = true := by rfl) : RhsL K p w n sc cm xs ρ (e :: es) ((o, d) :: l) :=
  fun A E s KP Y env sl ρt oa pos Q r eo kp nm pre S q => wpAny_items_cons (h A E s KP Y env sl ρt oa _ r eo kp nm pre S fun v oa' h' tk l1 S' =>
    t A E { s with heap := h', toks := tk } KP Y env _ _ oa' pos _ r eo kp nm.app pre.app S' fun vs oa'' h'' tk' hl l2 S'' => q (v :: vs) oa'' h'' tk' (by simp [hl]) (fun b o n1 n2 e => l2 b o n1 n2 (l1.keep b o n1 n2 e)) (by simpa using S'')) (starEach_plain u)

theorem setAll_take (nx : Nat) : ∀ (l : List Sto) (r : List Ent), (∀ t ∈ l, nx ≤ t.j) → (runSto r l).take nx = setAll (r.take nx) (l.map fun t => (t.i, t.e))
  | [], r, _ => rfl
  | t :: l, r, h => by
    rw [runSto, setAll_take nx l _ fun u hu => h u (List.mem_cons_of_mem _ hu), List.map_cons, setAll]
    rw [List.take_set_of_le (h t (List.mem_cons_self ..)), List.take_set]
theorem runSto_length : ∀ (l : List Sto) (r : List Ent), (runSto r l).length = r.length
  | [], _ => rfl
  | t :: l, r => by rw [runSto, runSto_length l]; simp
/-- stores in any order, the temporaries let go -/
theorem wp_storeList {KP : Addr → Obj → Prop} {Y : Addr → Prop} {env : Env} {A : Around} {E : Value → Shared → Prop} {s : Shared} {oa : Nat → Addr} {Q : Unit → Shared → Prop} {vals : List Value} {ents : List (Bool × V)}
    (eo : EnvOk sc env) (l : List Sto) (S : Stt K sc cm KP Y env (xs.map .nm ++ vals.map .val) (ρ ++ ents.map some) oa s.heap) (hρ : ρ.length = xs.length)
    (hl : ∀ t ∈ l, Stores p w env t.x t.op ∧ xs[t.i]? = some t.x ∧ kindOk sc cm t.x ∧ xs.length ≤ t.j ∧ vals[t.j - xs.length]? = some t.v ∧ ents[t.j - xs.length]? = some t.e) (nd : (l.map (·.j)).Nodup)
    (q : ∀ oa' h' tk, Sn K sc cm KP Y env xs (setAll ρ (l.map fun t => (t.i, t.e))) oa' h' → Q () { s with heap := h', toks := tk }) :
    wpAny (model p w) A (assignInOrder (l.map (·.op)) (l.map (·.v))) Q E s := by
  refine wp_stores (K := K) (p := p) (w := w) (sc := sc) (cm := cm) (A := A) (E := E) xs.length eo l _ oa s Q S (fun t ht => ?_) nd fun oa' h' tk S' => q oa' h' tk ?_
  · obtain ⟨g0, g1, g2, g3, g4, g5⟩ := hl t ht
    have hlt : t.i < xs.length := (List.getElem?_eq_some_iff.mp g1).1
    refine ⟨g0, ?_, ?_, g2, hlt, g3, ?_⟩
    · rw [List.getElem?_append_left (by simpa using hlt), List.getElem?_map, g1]; rfl
    · rw [List.getElem?_append_right (by rw [List.length_map]; exact g3), List.length_map, List.getElem?_map, g4]; rfl
    · rw [List.getElem?_append_right (by rw [hρ]; exact g3), hρ, List.getElem?_map, g5]; rfl
  · have e := setAll_take xs.length l (ρ ++ ents.map some) fun t ht => (hl t ht).2.2.2.1
    have e0 : (ρ ++ ents.map some).take xs.length = ρ := by rw [← hρ, List.take_left']; rfl
    rw [e0] at e
    have hlen : (setAll ρ (l.map fun t => (t.i, t.e))).length = xs.length := (setAll_length _ _).trans hρ
    have S2 := S'.sub (ρ' := setAll ρ (l.map fun t => (t.i, t.e))) (m := xs.length) ⟨?_, fun k o d z => .inl ?_⟩ hlen
    · rw [List.take_append_of_le_length (by simp), List.take_of_length_le (by simp)] at S2
      exact S2
    · rw [hlen, runSto_length]; simp [hρ]
    · rw [← e, List.getElem?_take] at z
      split at z
      · exact z
      · exact nn z

theorem stores_assign {x : Str} {pp : Pos} {env : Env} : Stores p w env x (PySem.assign (.Name x pp) env) := fun A E v s Q h => wpAny_assign_Name h
theorem stores_bind {x : Str} {env : Env} : Stores p w env x (bindName env x) := fun A E v s Q h => wpAny_bindName h

theorem stoOf_rev_ok {nx : Nat} {ts : List Tgt} {vs : List Value} {es : List (Bool × V)} {P : Tgt → Prop} (ht : ∀ t ∈ ts, P t) {t : Sto} (h : t ∈ stoOf nx ts vs es) : P ⟨t.i, t.x, t.op⟩ ∧ nx ≤ t.j ∧ vs[t.j - nx]? = some t.v ∧ es[t.j - nx]? = some t.e := by
  obtain ⟨k, a, b, c, d⟩ := stoOf_mem h
  have : t.j - nx = k := by omega
  rw [this]
  exact ⟨ht _ (List.mem_of_getElem? a), by omega, b, c⟩
theorem stoOf_pairs : ∀ (m : Nat) (ts : List Tgt) (vs : List Value) (es : List (Bool × V)), ts.length = vs.length → vs.length = es.length → (stoOf m ts vs es).map (fun t => (t.i, t.e)) = (ts.map (·.i)).zip es
  | m, u :: ts, v :: vs, e :: es, h1, h2 => by
    simp only [stoOf, List.map_cons, List.zip_cons_cons, stoOf_pairs (m + 1) ts vs es (by simpa using h1) (by simpa using h2)]
  | _, [], [], [], _, _ => rfl
  | _, [], _ :: _, _, h, _ => by cases h
  | _, _ :: _, [], _, h, _ => by cases h
  | _, [], [], _ :: _, _, h => by cases h
  | _, _ :: _, _ :: _, [], _, h => by cases h

/-- the display of a tuple: the tuple's object, and its parts as temporaries -/
theorem RhsL.disp {es : List Expr} {l : List (Bool × V)} (h : RhsL K p w n sc cm xs ρ es l) (hz : l.length ≤ sizeLine) {k : Nat} {tp : Pos} {A : Around} {E : Value → Shared → Prop} {s : Shared} {KP : Addr → Obj → Prop} {Y : Addr → Prop} {env : Env} {oa : Nat → Addr} {Q : Value → Shared → Prop}
    (r : Rm n A) (eo : EnvOk sc env) (kp : KPok KP) (S : Sn K sc cm KP Y env xs ρ oa s.heap)
    (q : ∀ T items oa' h' tk, items.size = l.length → IsTup h' T items → Stt K sc cm KP Y env (xs.map .nm ++ items.toList.map .val) (ρ ++ l.map some) oa' h' → Q (.ref T) { s with heap := h', toks := tk }) : wpAny (model p w) A (eval (.Tuple es k tp) env) Q E s :=
  wpAny_Tuple (h A E s KP Y env _ ρ oa tp _ r eo kp nmOk preRefl S fun vs oa' h' tk hl _ S' => ⟨by omega, q _ vs.toArray oa' _ tk (by simpa using hl) ⟨_, Heap.get?_push_size _ rfl, rfl, _, rfl⟩ (by simpa using S'.le kp eo (.push _ _))⟩)

/-- a, b = e, f where the stores come from the right -/
theorem Tr1.asgSwap (ts : List NmT) {es : List Expr} {l : List (Bool × V)} {k k2 : Nat} {tp vp pos : Pos} {Ψ : PostR} (h : RhsL K p w n sc cm xs ρ es l) (h1 : ts.length = l.length) (h2 : l.length ≤ sizeLine) (ht : ∀ t ∈ ts, xs[t.i]? = some t.x ∧ sc.names.lookup t.x = some .local)
    (hw : ∀ env, EnvOk sc env → swappedStores [.Tuple (ts.map NmT.e) k tp] (.Tuple es k2 vp) env = pure (some (ts.map (·.x)))) :
    Tr1 K p w n sc cm xs ρ (.Assign [.Tuple (ts.map NmT.e) k tp] (.Tuple es k2 vp) pos) (· = setAll ρ ((ts.map (·.i)).zip l).reverse) Ψ :=
  fun A E s KP Y env oa Q r eo kp S qn qr => by
    have hρ : ρ.length = xs.length := by have := S.dom; simpa using this
    refine Assign_Tuple_swapped (names := ts.map (·.x)) (h.disp h2 r eo kp S fun T items oa' h' tk hi hT S' => ?_) rfl (hw env eo)
    rw [List.length_map, show ts.length = items.size by omega]
    refine unpackItems_tuple (s := { s with heap := h', toks := tk }) r.hd hT fun h'' ex => ?_
    have l' : Le (Xs cm Y env (ρ ++ l.map some) oa') h' h'' := .of_keep fun b o e => ex b o (fun z => by rw [z, get?_size] at e; exact nn e) e
    have hts : (ts.map fun t => (⟨t.i, t.x, bindName env t.x⟩ : Tgt)).length = items.toList.length := by simp [h1, hi]
    have hil : items.toList.length = l.length := by simp [hi]
    obtain ⟨e1, e2⟩ := stoOf_names xs.length (ts.map fun t => (⟨t.i, t.x, bindName env t.x⟩ : Tgt)) items.toList l hts hil
    have e3 := stoOf_pairs xs.length (ts.map fun t => (⟨t.i, t.x, bindName env t.x⟩ : Tgt)) items.toList l hts hil
    have key := wp_storeList (K := K) (p := p) (w := w) (sc := sc) (cm := cm) (xs := xs) (ρ := ρ) (A := A) (E := E) (s := { s with heap := h'', toks := tk }) (Q := fun _ => Q .next) eo (stoOf xs.length (ts.map fun t => (⟨t.i, t.x, bindName env t.x⟩ : Tgt)) items.toList l).reverse (S'.le kp eo l') hρ (fun t ht' => ?_) ?_ (fun oa₂ h₂ tk₂ S₂ => ?_)
    · rw [List.map_reverse, List.map_reverse, e1, e2, List.map_map] at key
      rw [← List.map_reverse, List.map_map]
      rw [← List.map_reverse] at key
      exact key
    · rw [List.mem_reverse] at ht'
      obtain ⟨a, b, c, d⟩ := stoOf_rev_ok (P := fun t => xs[t.i]? = some t.x ∧ sc.names.lookup t.x = some .local ∧ t.op = bindName env t.x) (fun t hm => by
        obtain ⟨t', m, rfl⟩ := List.mem_map.mp hm
        exact ⟨(ht t' m).1, (ht t' m).2, rfl⟩) ht'
      exact ⟨by rw [show t.op = bindName env t.x from a.2.2]; exact stores_bind, a.1, .inl a.2.1, b, c, d⟩
    · rw [List.map_reverse]
      exact (List.reverse_perm _).nodup_iff.mpr (stoOf_nodup ..)
    · rw [List.map_reverse, e3, List.map_map] at S₂
      exact qn _ oa₂ h₂ tk₂ rfl S₂
/-- a, b = e, f where the stores come from the left -/
theorem Tr1.asgTup (ts : List NmT) {es : List Expr} {l : List (Bool × V)} {k k2 : Nat} {tp vp pos : Pos} {Ψ : PostR} (h : RhsL K p w n sc cm xs ρ es l) (h1 : ts.length = l.length) (h2 : l.length ≤ sizeLine) (ht : ∀ t ∈ ts, xs[t.i]? = some t.x ∧ kindOk sc cm t.x)
    (hw : ∀ env, EnvOk sc env → swappedStores [.Tuple (ts.map NmT.e) k tp] (.Tuple es k2 vp) env = pure none) :
    Tr1 K p w n sc cm xs ρ (.Assign [.Tuple (ts.map NmT.e) k tp] (.Tuple es k2 vp) pos) (· = setAll ρ ((ts.map (·.i)).zip l)) Ψ :=
  fun A E s KP Y env oa Q r eo kp S qn qr => by
    have hρ : ρ.length = xs.length := by have := S.dom; simpa using this
    refine Assign_Tuple (h.disp h2 r eo kp S fun T items oa' h' tk hi hT S' => ?_) rfl (hw env eo)
    show wpAny _ _ (do standAt tp; unpack _ (assignEach (ts.map NmT.e) env)) _ _ _
    refine wpAny_bind (wpAny_standAt ?_)
    exact unpack_names (s := { s with heap := h', toks := tk }) (xs := xs) (ρ := ρ) r.hd eo kp hT ts (by omega) hi ht S' hρ fun oa₂ h₂ tk₂ S₂ => qn _ oa₂ h₂ tk₂ rfl S₂
end Mine

-- B14
namespace Mine
variable {K : Frag} {p : Program} {w : World} {n : Nat} {sc : Scope} {cm : Bool} {xs : List Str} {ρ : List Ent}

theorem Holds.det {env : Env} {h : Heap} {x : Str} {u v : Value} (a : Holds sc env h (.nm x) u) (b : Holds sc env h (.nm x) v) : u = v := by
  rcases a with ⟨a, m, n, e⟩ | ⟨a, c, e, _, _, ⟨o, i1, i2⟩⟩
  · rcases b with ⟨b, m', n', e'⟩ | ⟨b, _⟩
    · have := Ns.det n n' x
      rw [e, e'] at this; cases this; rfl
    · rw [a] at b; rcases b with b | b <;> cases b
  · rcases b with ⟨b, _⟩ | ⟨b, c', e', _, _, ⟨o', j1, j2⟩⟩
    · rw [b] at a; rcases a with a | a <;> cases a
    · rw [e] at e'; cases e'
      rw [i1] at j1; cases j1
      rw [i2] at j2; cases j2; rfl
theorem Stt.dropTemps {KP : Addr → Obj → Prop} {Y : Addr → Prop} {env : Env} {oa : Nat → Addr} {h : Heap} {ts : List Slot} {es : List Ent} (S : Stt K sc cm KP Y env (xs.map .nm ++ ts) (ρ ++ es) oa h) (hρ : ρ.length = xs.length) : Sn K sc cm KP Y env xs ρ oa h := by
  have S2 := S.sub (ρ' := ρ) (m := xs.length) ⟨by simp, fun k o d z => .inl ?_⟩ hρ
  · rw [List.take_append_of_le_length (by simp), List.take_of_length_le (by simp)] at S2
    exact S2
  · rw [List.getElem?_append_left (List.getElem?_eq_some_iff.mp z).1]; exact z
noncomputable abbrev plainL (items : Array Value) (n : Nat) : Obj := { cls := .type "list", data := .seq items n }
/-- an own list, by its name: what it is; how it may be changed -/
theorem Stt.ownList {KP : Addr → Obj → Prop} {Y : Addr → Prop} {env : Env} {oa : Nat → Addr} {h : Heap} {ts : List Slot} {es : List Ent} {i : Nat} {x : Str} {D : Value} {ds : List V} (S : Stt K sc cm KP Y env (xs.map .nm ++ ts) (ρ ++ es) oa h) (hρ : ρ.length = xs.length)
    (hi : ρ[i]? = some (some (true, .list ds))) (hx : xs[i]? = some x) (hD : Holds sc env h (.nm x) D) :
    ∃ a items k, D = .ref a ∧ h.get? a = some (plainL items k) ∧ RepL h (Xs cm Y env (ρ ++ es) oa) items.toList ds ∧ (∀ h' items' k' ds', Heap.SameBut a h h' → h'.get? a = some (plainL items' k') → RepL h (Xs cm Y env (ρ ++ es) oa) items'.toList ds' → Sn K sc cm KP Y env xs (ρ.set i (some (true, .list ds'))) oa h') := by
  have hlt : i < ρ.length := (List.getElem?_eq_some_iff.mp hi).1
  have hi' : (ρ ++ es)[i]? = some (some (true, .list ds)) := by rw [List.getElem?_append_left hlt]; exact hi
  have hx' : (xs.map Slot.nm ++ ts)[i]? = some (.nm x) := by
    rw [List.getElem?_append_left (by rw [List.length_map, ← hρ]; exact hlt), List.getElem?_map, hx]; rfl
  obtain ⟨v, hh, ow⟩ := S.own i _ _ hx' hi'
  have e := hD.det hh
  generalize ha : oa i = a at ow
  cases ow with
  | list a1 r =>
    rename_i items k
    refine ⟨a, items, k, e, a1, r, fun h' items' k' ds' sb g r' => ?_⟩
    have hX : Xs cm Y env (ρ ++ es) oa a := .inr (.inr ⟨i, _, hi', ha⟩)
    have S2 := S.mutate (h' := h') (d' := .list ds') hi' (ha.symm ▸ sb) (fun z u z1 z2 o => by
      rw [ha] at o ⊢
      cases o with
      | list b1 r2 => exact .list g (r'.imp fun b o e av => ⟨(sb.2 b fun q => av.1 (q ▸ hX)).trans e, av⟩)) (by rw [ha, g]; rfl)
    rw [List.set_append_left _ _ hlt] at S2
    exact S2.dropTemps (by rw [List.length_set]; exact hρ)

theorem mapSeq_set (its : Array Value) (n j : Nat) (v : Value) : ∃ k, Obj.mapSeq (·.setIfInBounds j v) (plainL its n) = plainL (its.setIfInBounds j v) k := ⟨_, by simp [Obj.mapSeq]; rfl⟩
/-- xs[-1] = v -/
theorem setItem_last {A : Around} {E : Value → Shared → Prop} {s : Shared} {l : Addr} {items : Array Value} {m : Nat} {t : Tok} {v : Value} {Q : Unit → Shared → Prop} (ho : s.heap.get? l = some (plainL items m)) (h0 : 0 < items.size)
    (hQ : ∀ h' k, h'.get? l = some (plainL (items.setIfInBounds (items.size - 1) v) k) → Heap.SameBut l s.heap h' → Q () { s with heap := h' }) : wpAny (model p w) A (setItem (.ref l) (.int (-1) t) v) Q E s := by
  have hl : s.heap.IsList l items := ⟨_, ho, rfl, m, rfl⟩
  have hd : (plainL items m).data = .seq items m := rfl
  unfold setItem
  try with_reducible refine wpAny_holding ?_
  first | refine wpAny_bind (wpAny_pure ?_) | skip
  refine wpAny_bind (wpAny_sequenceKey hl.typeIs (by decide) ?_)
  refine wpAny_bind (wpAny_callSpecial?_slot (name := Str.ofString "__setitem__") hl.typeIs slot_list_setitem
    (wpAny_call_entry slot_list_setitem hl.typeIs entry_list_setitem ?_ (args_list_setitem _ _ _)))
  show wpAny _ _ (Builtin.List.listSubscript? (.int (-1) t) >>= _) _ _ s
  refine wpAny_bind (wpAny_listSubscript_int (fitsIndex_neg (by decide) (by decide)) ?_)
  have hidx : seqIndex? (Int.negSucc 0) items.size = some (items.size - 1) := by
    rw [seqIndex_neg (by decide) (by omega)]
    congr 1
    omega
  have hx' : items[items.size - 1]? = some items[items.size - 1] := Array.getElem?_eq_getElem (by omega)
  show wpAny _ _ ((Builtin.List.listItems (.ref l) >>= fun xs => pure ((seqIndex? (Int.negSucc 0) xs.size).bind fun i => xs[i]?.map (i, ·))) >>= _) _ _ s
  refine wpAny_bind (wpAny_bind ?_)
  show wpAny _ _ (seqItems? (.ref l) >>= _) _ _ s
  refine wpAny_bind (wpAny_seqItems ho hd (wpAny_pure (wpAny_pure ?_)))
  rw [hidx]
  simp only [Option.bind_some, hx', Option.map_some]
  obtain ⟨k, hk⟩ := mapSeq_set items m (items.size - 1) v
  show wpAny _ _ (setSeqItemAt l (items.size - 1) v >>= _) _ _ s
  have hfin : (s.heap.update l (Obj.mapSeq (·.setIfInBounds (items.size - 1) v))).get? l = some (plainL (items.setIfInBounds (items.size - 1) v) k) := by
    rw [Heap.get?_update_self _ ho (by rw [hk]; rfl), hk]
  refine wpAny_bind (wpAny_setSeqItemAt ho hd ?_)
  first
    | exact wpAny_bind (wpAny_pure (wpAny_pure ⟨.none, rfl, wpAny_pure (hQ _ k hfin (Heap.SameBut.update ..))⟩))
    | exact wpAny_pure ⟨.none, rfl, wpAny_pure (hQ _ k hfin (Heap.SameBut.update ..))⟩

/-! a method's call -/
theorem few_trees {es : List Expr} {env : Env} {pos : Pos} (h : es.all unstar = true) (hn : es.length < 30) : methodCallForm (es.length + ([] : List Keyword).length) (backTo pos (starEach es env)) (backToKw pos (keywordEach [] env)) = true := by
  have h1 : ∀ es : List Expr, es.all unstar = true → (backTo pos (starEach es env)).all (fun x => !x.1) = true := by
    intro es
    induction es with
    | nil => intro _; rfl
    | cons e es ih =>
      intro h
      have h' := Bool.and_eq_true_iff.mp h
      rw [starEach_plain h'.1]
      exact ih h'.2
  show ((backTo pos (starEach es env)).all (fun x => !x.1) && (backToKw pos (keywordEach [] env)).all (fun x => x.1.isSome) && decide (es.length + ([] : List Keyword).length + (if ([] : List Keyword).isEmpty then 0 else 1) < 30)) = true
  rw [h1 es h]
  simp [hn]
  intro a b h
  cases h
theorem eval_method {A : Around} {E : Value → Shared → Prop} {s : Shared} {env : Env} {o : Expr} {name : Str} {apos pos : Pos} {es : List Expr} {Q : Value → Shared → Prop} (hbase : attributeBase o name env (eval o env) = eval o env) (hu : es.all unstar = true) (hn : es.length < 30) (hline : (apos.endLine == pos.line) = true)
    (h : wpAny (model p w) A (eval o env) (fun ov s₁ => ∃ f first, (∀ (pl : Sem Bool) (Q' : Value × List Value → Shared → Prop), Q' (f, first) s₁ → wpAny (model p w) A (getMethod ov name pl) Q' E s₁) ∧ wpAny (model p w) A (callWith pos f first (backTo pos (starEach es env)) []) Q E s₁) E s) :
    wpAny (model p w) A (eval (.Call (.Attribute o name apos) es [] pos) env) Q E s := by
  rw [arm_eval_Call, hbase]
  refine wpAny_bind (wpAny_mono h (fun ov s₁ h₁ => ?_) fun _ _ e => e)
  obtain ⟨f, first, hg, hc⟩ := h₁
  refine wpAny_bind (wpAny_standAt ?_)
  have hpos : methodCallPos true o env apos pos = pure pos := by unfold methodCallPos; simp [hline]
  unfold methodCall
  rw [few_trees hu hn]
  refine wpAny_bind (wpAny_holding (hg _ _ ?_))
  exact wpAny_bind (wpAny_of_eq hpos hc)

theorem notInteractive {env : Env} (eo : EnvOk sc env) : interactive env = false := by
  unfold interactive
  rw [eo.sco, eo.kd]; rfl
theorem Stt.ownHolds {KP : Addr → Obj → Prop} {Y : Addr → Prop} {env : Env} {oa : Nat → Addr} {h : Heap} {i : Nat} {x : Str} {o : Bool} {d : V} (S : Sn K sc cm KP Y env xs ρ oa h) (hx : xs[i]? = some x) (hi : ρ[i]? = some (some (o, d))) : ∃ v, Holds sc env h (.nm x) v := by
  cases o with
  | true => obtain ⟨v, hh, _⟩ := S.own i _ _ (nmOk i x hx) hi; exact ⟨v, hh⟩
  | false => obtain ⟨v, hh, _⟩ := S.fro i _ _ (nmOk i x hx) hi; exact ⟨v, hh⟩
/-- x.append(e) -/
theorem Tr1.append {x : Str} {np apos pos spos : Pos} {e : Expr} {ds : List V} {d : V} {i : Nat} {Ψ : PostR} (h : Rhs K p w n sc cm xs ρ e false d) (hi : xs[i]? = some x) (hd : ρ[i]? = some (some (true, .list ds))) (hz : ds.length < sizeLine)
    (hu : unstar e = true := by rfl) (hline : (apos.endLine == pos.line) = true := by rfl) (h1 : (x == ("__debug__" : Str)) = false := by decide +kernel) (h2 : (x == ("__classdict__" : Str)) = false := by decide +kernel) :
    Tr1 K p w n sc cm xs ρ (.Expr (.Call (.Attribute (.Name x np) "append" apos) [e] [] pos) spos) (· = ρ.set i (some (true, .list (ds ++ [d])))) Ψ :=
  fun A E s KP Y env oa Q r eo kp S qn qr => by
    have hρ : ρ.length = xs.length := by have := S.dom; simpa using this
    refine wpAny_Expr_any ?_ (notInteractive eo) rfl
    obtain ⟨v, hh⟩ := Stt.ownHolds S hi hd
    have S0 : Stt K sc cm KP Y env (xs.map .nm ++ []) (ρ ++ []) oa s.heap := by simpa using S
    obtain ⟨a, items, k, rfl, g, rl, _⟩ := S0.ownList hρ hd hi hh
    have il : s.heap.IsList a items := ⟨_, g, rfl, k, rfl⟩
    refine eval_method rfl (by simp [hu]) (by simp) hline (wpAny_Name (hh.load eo h2 ⟨.builtin "list.append", [.ref a], fun pl Q' q => Calls.getMethod_list_append g rfl rfl q, ?_⟩) h1)
    rw [show backTo pos (starEach [e] env) = [(false, eval e env)] by rw [starEach_plain hu]; rfl]
    refine Calls.callWith_builtin rfl (Calls.evalArgs_plain (Calls.spliced_cons (h A E s KP Y env _ ρ oa _ r eo kp nmOk preRefl S fun y oa' h' tk l S' => Calls.spliced_nil ?_)))
    obtain ⟨a', items', k', e1, g', rl', upd⟩ := S'.ownList hρ hd hi (hh.keep eo l)
    cases e1
    have hs : items'.size ≤ sizeLine := by
      have := rl'.length
      rw [Array.length_toList] at this; omega
    refine append_at (s := { s with heap := h', toks := tk }) g' (fun h'' sb g'' => ?_) hs
    refine qn _ oa' h'' tk rfl (upd h'' _ _ _ sb g'' ?_)
    rw [Array.toList_push]
    obtain ⟨y', hy, ry⟩ := S'.fro xs.length (.val y) d (by rw [List.getElem?_append_right (by simp)]; simp) (by rw [← hρ, List.getElem?_append_right (Nat.le_refl _)]; simp)
    cases hy
    exact rl'.snoc ry
/-- x.extend(e) -/
theorem Tr1.extend {x : Str} {np apos pos spos : Pos} {e : Expr} {ds es : List V} {i : Nat} {Ψ : PostR} (h : Evs K p w n sc xs (hid ρ) e true (.list es)) (hi : xs[i]? = some x) (hd : ρ[i]? = some (some (true, .list ds))) (hz : ds.length + es.length < 10000)
    (hu : unstar e = true := by rfl) (hline : (apos.endLine == pos.line) = true := by rfl) (h1 : (x == ("__debug__" : Str)) = false := by decide +kernel) (h2 : (x == ("__classdict__" : Str)) = false := by decide +kernel) :
    Tr1 K p w n sc cm xs ρ (.Expr (.Call (.Attribute (.Name x np) "extend" apos) [e] [] pos) spos) (· = ρ.set i (some (true, .list (ds ++ es)))) Ψ :=
  fun A E s KP Y env oa Q r eo kp S qn qr => by
    have hρ : ρ.length = xs.length := by have := S.dom; simpa using this
    refine wpAny_Expr_any ?_ (notInteractive eo) rfl
    obtain ⟨v, hh⟩ := Stt.ownHolds S hi hd
    have S0 : Stt K sc cm KP Y env (xs.map .nm ++ []) (ρ ++ []) oa s.heap := by simpa using S
    obtain ⟨a, items, k, rfl, g, rl, _⟩ := S0.ownList hρ hd hi hh
    have il : s.heap.IsList a items := ⟨_, g, rfl, k, rfl⟩
    refine eval_method rfl (by simp [hu]) (by simp) hline (wpAny_Name (hh.load eo h2 ⟨.builtin "list.extend", [.ref a], fun pl Q' q => getMethod_list_of PySem.F.slot_list_extend PySem.F.type_list_extend il ⟨_, g, rfl⟩ q, ?_⟩) h1)
    rw [show backTo pos (starEach [e] env) = [(false, eval e env)] by rw [starEach_plain hu]; rfl]
    refine Calls.callWith_builtin rfl (Calls.evalArgs_plain (Calls.spliced_cons (h A E s _ env _ r eo S.world S.liveX (S.hid' nmOk preRefl) fun y h' tk l ry fy => Calls.spliced_nil ?_)))
    have S' : Stt K sc cm KP Y env (xs.map .nm ++ []) (ρ ++ []) oa h' := by simpa using S.le kp eo l
    obtain ⟨a', items', k', e1, g', rl', upd⟩ := S'.ownList hρ hd hi (hh.keep eo l)
    cases e1
    obtain ⟨b, rfl, _, fb⟩ := fy rfl
    cases ry using Rep.casesList with
    | list b1 b2 b3 b4 b5 =>
      rename_i ob vs m
      have eb := (fb ob b1 b2).2
      rw [b3] at eb
      have z1 := rl'.length
      have z2 := b5.length
      rw [Array.length_toList] at z1 z2
      have hs2 : items'.size + vs.size ≤ sizeLine := by rw [sizeLine_eq]; omega
      have hlong : ¬ (!items'.isEmpty && Builtin.List.listTooLong (items'.size + vs.size)) = true := by
        unfold Builtin.List.listTooLong
        simp [hs2]
      have m0 := PySem.AutoSeq1.list_extend_list_list_0 a items' k' b vs m hlong (by omega) (by omega)
      refine call_meets (s := { s with heap := h', toks := tk }) PySem.F.slot_list_extend ⟨_, g', rfl⟩ PySem.F.entry_list_extend (PySem.F.args_list_extend_2 _ _) m0 ⟨g', eb ▸ b1, ?_⟩
      have gf : ∃ q, (h'.update a (Obj.mapSeq fun x => x ++ vs)).get? a = some (plainL (items' ++ vs) q) := by
        refine ⟨if (items' ++ vs).size == items'.size then k' else k' + 1, ?_⟩
        rw [Heap.get?_update_self _ g' (by rw [mapSeq_app]; rfl), mapSeq_app]
      obtain ⟨q', gf⟩ := gf
      exact qn _ oa _ tk rfl (upd _ _ _ _ (Heap.SameBut.update ..) gf (by rw [Array.toList_append]; exact RepL.append (by simpa using b5) rl'))

/-- x[-1] = e -/
theorem Tr1.setLast {x : Str} {np ip tp pos pos2 : Pos} {e : Expr} {ds : List V} {d : V} {i kk : Nat} {Ψ : PostR} (h : Rhs K p w n sc cm xs ρ e false d) (hi : xs[i]? = some x) (hd : ρ[i]? = some (some (true, .list ds))) (h0 : 0 < ds.length)
    (hc : noComp e = true := by rfl) (h1 : (x == ("__debug__" : Str)) = false := by decide +kernel) (h2 : (x == ("__classdict__" : Str)) = false := by decide +kernel) :
    Tr1 K p w n sc cm xs ρ (.Assign [.Subscript (.Name x np) (.UnaryOp .USub (.Constant (.int 1) kk ip) tp) pos] e pos2) (· = ρ.set i (some (true, .list (ds.set (ds.length - 1) d)))) Ψ :=
  fun A E s KP Y env oa Q r eo kp S qn qr => by
    have hρ : ρ.length = xs.length := by have := S.dom; simpa using this
    refine wpAny_Assign_Subscript (h A E s KP Y env _ ρ oa _ r eo kp nmOk preRefl S fun y oa' h' tk l S' => ?_) (swaps_no hc)
    have hlt : i < ρ.length := (List.getElem?_eq_some_iff.mp hd).1
    obtain ⟨v, hh, ow⟩ := S'.own i (.nm x) (.list ds) (by rw [List.getElem?_append_left (by rw [List.length_map, ← hρ]; exact hlt), List.getElem?_map, hi]; rfl) (by rw [List.getElem?_append_left hlt]; exact hd)
    obtain ⟨a, items, k, rfl, g, rl, upd⟩ := S'.ownList hρ hd hi hh
    refine wpAny_Name (Holds.load (s := { s with heap := h', toks := tk }) eo hh h2 ?_) h1
    refine (Evs.neg (K := K) (p := p) (w := w) (n := n) (sc := sc) (xs := xs) (ρ := hid ρ) Evs.int) A E { s with heap := h', toks := tk } _ env _ r eo S'.world S'.liveX (S'.hid' (ρ := ρ) nmOk.app preRefl.app) fun iv h₂ tk₂ l₂ ri _ => ?_
    cases ri using Rep.casesInt
    have S₂ := S'.le kp eo l₂
    obtain ⟨a', items', k', e1, g', rl', upd'⟩ := S₂.ownList hρ hd hi (hh.keep eo l₂)
    cases e1
    have hz := rl'.length
    rw [Array.length_toList] at hz
    refine setItem_last (s := { s with heap := h₂, toks := tk₂ }) g' (by omega) fun h₃ k₃ g₃ sb => qn _ oa' h₃ tk₂ rfl (upd' h₃ _ _ _ sb g₃ ?_)
    obtain ⟨y', hy, ry⟩ := S₂.fro xs.length (.val y) d (by rw [List.getElem?_append_right (by simp)]; simp) (by rw [← hρ, List.getElem?_append_right (Nat.le_refl _)]; simp)
    cases hy
    rw [Array.toList_setIfInBounds, hz]
    exact RepL.set ry _ rl'
end Mine

-- B15
namespace Mine
variable {K : Frag} {p : Program} {w : World} {n : Nat} {sc : Scope} {cm : Bool} {xs : List Str} {ρ : List Ent}

/-- a change at an owned address, other things made beside it -/
theorem Stt.mutateLe {KP : Addr → Obj → Prop} {Y : Addr → Prop} {env : Env} {oa : Nat → Addr} {h h' : Heap} {sl : List Slot} (S : Stt K sc cm KP Y env sl ρ oa h) (kp : KPok KP) (eo : EnvOk sc env) {i : Nat} {d d' : V} (hi : ρ[i]? = some (some (true, d)))
    (hk : ∀ b o, b ≠ oa i → b ≠ 365 → b ≠ 360 → h.get? b = some o → h'.get? b = some o) (lv : ∀ b, (h.get? b).isSome → (h'.get? b).isSome) (ht : Tabs (Xs cm Y env ρ oa) h')
    (o : ∀ (x : Slot) (v : Value), sl[i]? = some x → Holds sc env h x v → OwnIs h (Xs cm Y env ρ oa) v (oa i) d → OwnIs h' (Xs cm Y env ρ oa) v (oa i) d') :
    Stt K sc cm KP Y env sl (ρ.set i (some (true, d'))) oa h' := by
  have off := S.off i d hi
  have ftx : Xs cm Y env ρ oa (oa i) := .inr (.inr ⟨i, d, hi, rfl⟩)
  have hlt : i < ρ.length := (List.getElem?_eq_some_iff.mp hi).1
  have get : ∀ (k : Nat) (q : Bool × V), (ρ.set i (some (true, d')))[k]? = some (some q) → (k = i ∧ q = (true, d')) ∨ (k ≠ i ∧ ρ[k]? = some (some q)) := by
    intro k q e
    rw [List.getElem?_set] at e
    split at e
    · rename_i z
      first
        | (cases e; exact .inl ⟨z.symm, rfl⟩)
        | (split at e
           · cases e; exact .inl ⟨z.symm, rfl⟩
           · cases e)
    · rename_i z
      exact .inr ⟨Ne.symm z, e⟩
  have get1 : ∀ (k : Nat) (q : V), (ρ.set i (some (true, d')))[k]? = some (some (true, q)) → ∃ q', ρ[k]? = some (some (true, q')) := by
    intro k q e
    rcases get k _ e with ⟨rfl, q2⟩ | ⟨_, q2⟩
    · exact ⟨d, hi⟩
    · exact ⟨q, q2⟩
  have hX : ∀ b, Xs cm Y env (ρ.set i (some (true, d'))) oa b → Xs cm Y env ρ oa b := by
    intro b q
    rcases q with q | q | ⟨k, e, q1, rfl⟩
    · exact .inl q
    · exact .inr (.inl q)
    · obtain ⟨e', q2⟩ := get1 k e q1
      exact .inr (.inr ⟨k, e', q2, rfl⟩)
  have oaC : ∀ c (v₀ : Option Value), h.IsCell c v₀ → c ≠ oa i := by
    rintro c v₀ ⟨q, i1, i2⟩ hc
    obtain ⟨x, hx⟩ := Stt.slot (S := S) hi
    obtain ⟨v, _, ow⟩ := S.own i x d hx hi
    subst hc
    cases ow with
    | list a1 _ => rw [a1] at i1; cases i1; cases i2
    | inst _ _ a1 _ _ => rw [a1] at i1; cases i1; cases i2
    | idict a1 a2 _ => rw [a1] at i1; cases i1; obtain ⟨_, _, _, e⟩ := a2.cls; rw [e] at i2; cases i2
  have ns : ∀ m, h.Ns env.locals m → h'.Ns env.locals m := fun m n => Ns.le n fun o e => hk _ o (fun z => off.1 (.inl z.symm)) eo.l1 eo.l2 e
  have hold : ∀ y u, Holds sc env h y u → Holds sc env h' y u := by
    intro y u hh
    cases y with
    | val z => exact hh
    | nm y =>
      rcases hh with ⟨a, m, n, e⟩ | ⟨a, c, e, n1, n2, ⟨q, i1, i2⟩⟩
      · exact .inl ⟨a, m, ns m n, e⟩
      · exact .inr ⟨a, c, e, n1, n2, ⟨q, hk c q (oaC c _ ⟨q, i1, i2⟩) n1 n2 i1, i2⟩⟩
  have rp : ∀ b o, h.get? b = some o → Av (Xs cm Y env ρ oa) b → h'.get? b = some o ∧ Av (Xs cm Y env (ρ.set i (some (true, d'))) oa) b := fun b o e av => ⟨hk b o (fun z => av.1 (z ▸ ftx)) av.2.1 av.2.2 e, av.mono hX⟩
  refine ⟨fun b o q => hk b o (fun z => off.2.2.2.2.2 o (z ▸ q)) (kp b o q).1 (kp b o q).2 (S.keep b o q), S.wd, ⟨lv _ S.live.1, lv _ S.live.2.1, fun a q => ⟨lv _ (S.live.2.2 a q).1, (S.live.2.2 a q).2⟩⟩, fun a q => ⟨lv a (S.fa a q).1, (S.fa a q).2⟩, ?_, ?_, ?_, by simp [S.dom], S.nd, fun x q => ?_, S.cel, ?_, ?_, ht.mono hX, fun q y c e => ⟨lv c (S.cav q y c e).1, fun z => (S.cav q y c e).2 (hX c z)⟩⟩
  · obtain ⟨m, n⟩ := S.ns
    exact ⟨m, ns m n⟩
  · intro k y e q1 q2
    rcases get k _ q2 with ⟨_, q3⟩ | ⟨k1, k3⟩
    · cases q3
    · obtain ⟨u, hh, r⟩ := S.fro k y e q1 k3
      exact ⟨u, hold y u hh, r.imp rp⟩
  · intro k y e q1 q2
    rcases get k _ q2 with ⟨rfl, q3⟩ | ⟨k1, k3⟩
    · cases q3
      obtain ⟨u, hh, r⟩ := S.own k y d q1 hi
      exact ⟨u, hold y u hh, (o y u q1 hh r).imp (fun _ e => e) fun _ _ e av => ⟨e, av.mono hX⟩⟩
    · obtain ⟨u, hh, r⟩ := S.own k y e q1 k3
      obtain ⟨_, _, o3, o4, _⟩ := S.off k e k3
      exact ⟨u, hold y u hh, r.imp (fun q e' => hk _ q (fun z => k1 (S.inj k i e d k3 hi z)) o3 o4 e') rp⟩
  · obtain ⟨c, v₀, e, n1, n2, ⟨o', i1, i2⟩⟩ := S.cex x q
    exact ⟨c, v₀, e, n1, n2, ⟨o', hk c o' (oaC c _ ⟨o', i1, i2⟩) n1 n2 i1, i2⟩⟩
  · intro k e q
    obtain ⟨e', q2⟩ := get1 k e q
    exact S.off k e' q2
  · intro k l e f q1 q2 q3
    obtain ⟨e', q4⟩ := get1 k e q1
    obtain ⟨f', q5⟩ := get1 l f q2
    exact S.inj k l e' f' q4 q5 q3

/-! a field set -/
noncomputable def putF (x : Str) (d : V) : List (Str × V) → List (Str × V)
  | [] => [(x, d)]
  | (y, e) :: r => if y = x then (y, d) :: r else (y, e) :: putF x d r
theorem RepF.put {h : Heap} {X : Addr → Prop} {x : Str} {hs : Int} {t : Tok} {v : Value} {d : V} (rv : Rep h X v d) {es : List DictEntry} {fs : List (Str × V)} (r : RepF h X es fs) : RepF h X (putL x hs (.str x t) v es) (putF x d fs) :=
  r.ind (m := fun es fs => RepF h X (putL x hs (.str x t) v es) (putF x d fs)) (.cons rv .nil) fun {_ y t' _ _ _ _} a r ih => by
    unfold putL putF
    by_cases q : y = x
    · rw [if_pos q, if_pos (show (Value.str y t').isStr x = true from beq_iff_eq.mpr q)]
      exact .cons rv r
    · rw [if_neg q, if_neg (show ¬ (Value.str y t').isStr x = true from fun z => q (beq_iff_eq.mp z))]
      exact .cons a ih
theorem RepF.length {h : Heap} {X : Addr → Prop} {es : List DictEntry} {fs : List (Str × V)} (r : RepF h X es fs) : es.length = fs.length := r.ind (m := fun es fs => es.length = fs.length) rfl fun _ _ e => congrArg Nat.succ e
theorem RepF.some {h : Heap} {X : Addr → Prop} {x : Str} {es : List DictEntry} {fs : List (Str × V)} (r : RepF h X es fs) : (getL x es).isSome = true := by
  cases e : fs.lookup x with
  | none => rw [r.miss e]; rfl
  | some d => obtain ⟨v, g, _⟩ := r.get e; rw [g]; rfl
theorem putL_length {x : Str} {hs : Int} {k v : Value} : ∀ es : List DictEntry, (putL x hs k v es).length ≤ es.length + 1
  | [] => Nat.le_refl _
  | e :: r => by
    rw [putL]
    split
    · simp
    · simp only [List.length_cons]; have := putL_length (x := x) (hs := hs) (k := k) (v := v) r; omega
/-- what a field's store asks of the class -/
noncomputable def storeOk (K : Frag) (C : Addr) (x : Str) : Bool := findIn K (.ref C) "__setattr__" == some (some (.builtin "object.__setattr__")) && plainOver K C && takerIn K C x == some none && (clsIn K C).any (·.hasDict)

theorem osa_heap {A : Around} {s : Shared} {R : Result → Shared → Prop} {C x dx : Addr} {name : Str} {tk : Tok} {v : Value} {es : List DictEntry} {m : Nat} (X : K.In s.heap) (hx : s.heap.get? x = some (instObj C dx)) (hd : s.heap.get? dx = some (dictOf es m))
    (hp : plainOver K C = true) (ht : takerIn K C name = some none) (hh : (clsIn K C).any (·.hasDict) = true) (hl : (getL name es).isSome = true) (hz : es.length ≤ 900)
    (h : ∀ h', Heap.SameBut dx s.heap h' → h'.get? dx = some (dictOf (putL name (PyData.keyHash w.params name) (.str name s.toks) v es) (putN name es m)) → R (.ok (.ret .none)) { s with heap := h', toks := s.toks + 1 }) :
    codeAny (model p w) A (.call (.builtin "object.__setattr__") ⟨[.ref x, .str name tk, v], []⟩) R s := by
  have I : InstAt s.heap x (instObj C dx) C (some (dictOf es m)) := ⟨hx, rfl, rfl, hd⟩
  refine osa_open X I hp ht fun b => ?_
  obtain ⟨cd, hc, hd'⟩ := any_some hh
  have D := hd
  have hputs := putName_dict name (PyData.keyHash w.params name) (.str name s.toks) v es m
  have D' : (s.heap.update dx (Obj.putName name (PyData.keyHash w.params name) (.str name s.toks) v)).get? dx = some (dictOf (putL name (PyData.keyHash w.params name) (.str name s.toks) v es) (putN name es m)) := by
    rw [Heap.get?_update_self _ hd (by rw [hputs]; rfl), hputs]
  refine wpAny_bind (wpAny_pure (wpAny_bind (wpAny_bind (wpAny_loadPart hx (wpAny_bind ((looks_clsIn X hc).here ?_))))))
  rw [hd']
  refine wpAny_pure (a := some dx) (wpAny_bind (wpAny_pure (wpAny_bind ?_)))
  unfold nsSet
  refine wpAny_bind (wpAny_bind (wpAny_askSetting (wpAny_pure (wpAny_bind (wpAny_mkText (wpAny_bind (wpAny_loadPart D ?_)))))))
  have c : (!es.toArray.any (·.key.isStr name) && es.toArray.any (·.refKey)) = false := by
    rw [← Array.any_toList, ← Array.any_toList]
    unfold getL at hl
    split at hl
    · rename_i en he
      rw [List.any_eq_true.mpr ⟨en, List.mem_of_find?_eq_some he, List.find?_some he⟩]; rfl
    · split at hl
      · exact ff hl
      · rename_i z; rw [Bool.not_eq_true] at z
        simp only [z, Bool.and_false]
  dsimp only
  rw [aRefKeyMayBeTheName_at, c]
  refine wpAny_updatePart D ?_
  refine wpAny_bind (wpAny_lookBehind D' (pastItsLine_dict (by rw [List.size_toArray, sizeLine_eq]; have := putL_length (x := name) (hs := PyData.keyHash w.params name) (k := .str name s.toks) (v := v) es; omega)) ?_)
  exact wpAny_pure (h _ (Heap.SameBut.update ..) D')
theorem setAttr_heap {A : Around} {E : Value → Shared → Prop} {s : Shared} {Q : Unit → Shared → Prop} {C x dx : Addr} {name : Str} {v : Value} {es : List DictEntry} {m : Nat} (X : K.In s.heap) (hx : s.heap.get? x = some (instObj C dx)) (hd : s.heap.get? dx = some (dictOf es m))
    (ok : storeOk K C name = true) (hl : (getL name es).isSome = true) (hz : es.length ≤ 900)
    (h : ∀ h' hs t k tk, Heap.SameBut dx s.heap h' → h'.get? dx = some (dictOf (putL name hs (.str name t) v es) k) → Q () { s with heap := h', toks := tk }) :
    wpAny (model p w) A (setAttr (.ref x) name v) Q E s := by
  unfold storeOk at ok
  simp only [Bool.and_eq_true, beq_iff_eq] at ok
  obtain ⟨⟨⟨o1, o2⟩, o3⟩, o4⟩ := ok
  have I : InstAt s.heap x (instObj C dx) C (some (dictOf es m)) := ⟨hx, rfl, rfl, hd⟩
  exact set_plain X I o1 (osa_heap (s := { s with toks := s.toks + 1 }) X hx hd o2 o3 o4 hl hz fun h' sb g => h h' _ _ _ _ sb g)
end Mine

-- B16
namespace Mine
variable {K : Frag} {p : Program} {w : World} {n : Nat} {sc : Scope} {cm : Bool} {xs : List Str} {ρ : List Ent}

/-- x.f = (a temporary), x an own object of a class -/
theorem wp_setAttr {KP : Addr → Obj → Prop} {Y : Addr → Prop} {env : Env} {sl : List Slot} {oa : Nat → Addr} {A : Around} {E : Value → Shared → Prop} {s : Shared} {Q : Unit → Shared → Prop} (S : Stt K sc cm KP Y env sl ρ oa s.heap) (kp : KPok KP) (eo : EnvOk sc env)
    {i j : Nat} {x f : Str} {id : Option (Addr × Addr)} {C : Addr} {fs : List (Str × V)} {v : Value} {d : V} {np pos : Pos} (hi : sl[i]? = some (.nm x)) (hρ : ρ[i]? = some (some (true, .inst id C fs))) (hj : sl[j]? = some (.val v)) (he : ρ[j]? = some (some (false, d)))
    (ok : storeOk K C f = true) (hz : fs.length ≤ 900) (h1 : (x == ("__debug__" : Str)) = false) (h2 : (x == ("__classdict__" : Str)) = false)
    (q : ∀ h' tk, Stt K sc cm KP Y env sl (ρ.set i (some (true, .inst id C (putF f d fs)))) oa h' → Q () { s with heap := h', toks := tk }) : wpAny (model p w) A (PySem.assign (.Attribute (.Name x np) f pos) env v) Q E s := by
  rw [assign_Attribute]
  obtain ⟨u, hh, ow⟩ := S.own i _ _ hi hρ
  obtain ⟨v', hv, rv⟩ := S.fro j _ d hj he
  have : v' = v := hv
  subst this
  generalize ha : oa i = a at ow
  cases ow with
  | inst b1 b2 a1 r pin =>
    rename_i b es m
    refine wpAny_bind (wpAny_holding (wpAny_Name (hh.load eo h2 (wpAny_bind (wpAny_standAt (wpAny_bind (wpAny_holding ?_))))) h1))
    refine setAttr_heap S.world.k b1 a1 ok r.some (by rw [r.length]; exact hz) fun h' hs t k tk sb g => wpAny_release (q h' tk ?_)
    have hX : Xs cm Y env ρ oa a := .inr (.inr ⟨i, _, hρ, ha⟩)
    have rp : ∀ b o, s.heap.get? b = some o → Av (Xs cm Y env ρ oa) b → h'.get? b = some o ∧ Av (Xs cm Y env ρ oa) b := fun b o e av => ⟨(sb.2 b fun z => av.1 (z ▸ hX)).trans e, av⟩
    refine S.mutateLe kp eo hρ (fun b o n1 _ _ e => (sb.2 b (ha ▸ n1)).trans e) (fun b e => ?_) (touch_tabs sb hX (ha ▸ (S.off i _ hρ).2.2.1) (ha ▸ (S.off i _ hρ).2.2.2.1) S.tabs) fun y z _ _ o => ?_
    · by_cases hb : b = a
      · rw [hb, g]; rfl
      · rw [sb.2 b hb]; exact e
    · rw [ha] at o ⊢
      cases o with
      | inst c1 c2 c3 r3 pin3 =>
        rw [a1] at c3
        cases c3
        exact .inst (rp _ _ c1 c2).1 c2 g (RepF.put (rv.imp rp) (r.imp rp)) pin3
/-- x.f = e -/
theorem Tr1.setAttr {x f : Str} {np tp pos : Pos} {e : Expr} {d : V} {id : Option (Addr × Addr)} {C : Addr} {fs : List (Str × V)} {i : Nat} {Ψ : PostR} (h : Rhs K p w n sc cm xs ρ e false d) (hi : xs[i]? = some x) (hd : ρ[i]? = some (some (true, .inst id C fs)))
    (ok : storeOk K C f = true) (hz : fs.length ≤ 900 := by decide) (hc : noComp e = true := by rfl) (h1 : (x == ("__debug__" : Str)) = false := by decide +kernel) (h2 : (x == ("__classdict__" : Str)) = false := by decide +kernel) :
    Tr1 K p w n sc cm xs ρ (.Assign [.Attribute (.Name x np) f tp] e pos) (· = ρ.set i (some (true, .inst id C (putF f d fs)))) Ψ :=
  fun A E s KP Y env oa Q r eo kp S qn qr => by
    have hρ : ρ.length = xs.length := by have := S.dom; simpa using this
    have hlt : i < ρ.length := (List.getElem?_eq_some_iff.mp hd).1
    refine wpAny_Assign_stores (h A E s KP Y env _ ρ oa _ r eo kp nmOk preRefl S fun v oa' h' tk l S' => ?_) (show swapsWith e (some (.Attribute (.Name x np) f tp)) pos.line env = pure false from swaps_no hc) (by cases e <;> rfl)
    show wpAny _ A (PySem.assign (.Attribute (.Name x np) f tp) env v) _ _ _
    refine wp_setAttr (s := { s with heap := h', toks := tk }) S' kp eo (i := i) (j := xs.length) (x := x) (v := v) (d := d) ?_ (by rw [List.getElem?_append_left hlt]; exact hd) (by rw [List.getElem?_append_right (by simp)]; simp) (by rw [← hρ, List.getElem?_append_right (Nat.le_refl _)]; simp) ok hz h1 h2 fun h'' tk' S'' => qn _ oa' h'' tk' rfl ?_
    · rw [List.getElem?_append_left (by rw [List.length_map, ← hρ]; exact hlt), List.getElem?_map, hi]; rfl
    · rw [List.set_append_left _ _ hlt] at S''
      exact S''.dropTemps (by rw [List.length_set]; exact hρ)
/-- x.f, x.g = e₁, e₂ -/
theorem Tr1.setAttr2 {x f g : Str} {np np2 ap ap2 tp vp pos : Pos} {kk k2 : Nat} {e₁ e₂ : Expr} {d₁ d₂ : V} {id : Option (Addr × Addr)} {C : Addr} {fs : List (Str × V)} {i : Nat} {Ψ : PostR} (h₁ : Rhs K p w n sc cm xs ρ e₁ false d₁) (h₂ : Rhs K p w n sc cm xs ρ e₂ false d₂) (hi : xs[i]? = some x) (hd : ρ[i]? = some (some (true, .inst id C fs)))
    (ok : storeOk K C f = true) (ok2 : storeOk K C g = true) (hz : fs.length ≤ 800 := by decide) (hu : unstar e₁ = true := by rfl) (hu2 : unstar e₂ = true := by rfl)
    (hw : ∀ env, EnvOk sc env → swappedStores [.Tuple [.Attribute (.Name x np) f ap, .Attribute (.Name x np2) g ap2] kk tp] (.Tuple [e₁, e₂] k2 vp) env = pure none := by intros; rfl) (h1 : (x == ("__debug__" : Str)) = false := by decide +kernel) (h2 : (x == ("__classdict__" : Str)) = false := by decide +kernel) :
    Tr1 K p w n sc cm xs ρ (.Assign [.Tuple [.Attribute (.Name x np) f ap, .Attribute (.Name x np2) g ap2] kk tp] (.Tuple [e₁, e₂] k2 vp) pos) (· = ρ.set i (some (true, .inst id C (putF g d₂ (putF f d₁ fs))))) Ψ :=
  fun A E s KP Y env oa Q r eo kp S qn qr => by
    have hρ : ρ.length = xs.length := by have := S.dom; simpa using this
    have hlt : i < ρ.length := (List.getElem?_eq_some_iff.mp hd).1
    refine Assign_Tuple ((RhsL.cons h₁ (RhsL.cons h₂ .nil hu2) hu).disp (by simp [sizeLine_eq]) r eo kp S fun T items oa' h' tk hsz hT S' => ?_) rfl (hw env eo)
    show wpAny _ _ (do standAt tp; unpack _ (assignEach [.Attribute (.Name x np) f ap, .Attribute (.Name x np2) g ap2] env)) _ _ _
    refine wpAny_bind (wpAny_standAt (unpack_tuple (s := { s with heap := h', toks := tk }) r.hd hT (by rw [hsz]; rfl) rfl fun h'' ex => ?_))
    obtain ⟨v₁, v₂, hv⟩ : ∃ v₁ v₂, items.toList = [v₁, v₂] := by
      have : items.toList.length = 2 := by rw [Array.length_toList]; exact hsz
      match hm : items.toList, this with
      | [a, b], _ => exact ⟨a, b, rfl⟩
    rw [hv] at S' ⊢
    have l' : Le (Xs cm Y env (ρ ++ [(false, d₁), (false, d₂)].map some) oa') h' h'' := .of_keep fun b o e => ex b o (fun z => by rw [z, get?_size] at e; exact nn e) e
    have S2 := S'.le kp eo l'
    have nm : (xs.map Slot.nm ++ [v₁, v₂].map Slot.val)[i]? = some (.nm x) := by
      rw [List.getElem?_append_left (by rw [List.length_map, ← hρ]; exact hlt), List.getElem?_map, hi]; rfl
    have hzf : (putF f d₁ fs).length ≤ 900 := by
      have : ∀ fs : List (Str × V), (putF f d₁ fs).length ≤ fs.length + 1 := by
        intro fs
        induction fs with
        | nil => simp [putF]
        | cons a r ih => obtain ⟨y, e⟩ := a; rw [putF]; split <;> simp <;> omega
      have := this fs
      omega
    refine assignInOrder_cons (wp_setAttr (s := { s with heap := h'', toks := tk }) S2 kp eo (i := i) (j := xs.length) (x := x) (v := v₁) (d := d₁) nm (by rw [List.getElem?_append_left hlt]; exact hd) (by rw [List.getElem?_append_right (by simp)]; simp) (by rw [← hρ, List.getElem?_append_right (Nat.le_refl _)]; simp) ok (by omega) h1 h2 fun h₃ tk₃ S₃ => ?_)
    rw [List.set_append_left _ _ hlt] at S₃
    have hlt' : i < (ρ.set i (some (true, V.inst id C (putF f d₁ fs)))).length := by rw [List.length_set]; exact hlt
    refine assignInOrder_cons (wp_setAttr (s := { s with heap := h₃, toks := tk₃ }) S₃ kp eo (i := i) (j := xs.length + 1) (x := x) (v := v₂) (d := d₂) nm (by rw [List.getElem?_append_left hlt', List.getElem?_set_self hlt]) (by rw [List.getElem?_append_right (by simp)]; simp) (by rw [List.getElem?_append_right (by simp; omega)]; simp [hρ]) ok2 hzf h1 h2 fun h₄ tk₄ S₄ => assignInOrder_nil (qn _ oa' h₄ tk₄ rfl ?_))
    rw [List.set_append_left _ _ hlt', List.set_set] at S₄
    exact S₄.dropTemps (by rw [List.length_set]; exact hρ)

/-! calls that change the first argument -/
noncomputable def OwnAt (K : Frag) (KP : Addr → Obj → Prop) (Y : Addr → Prop) (dx : Addr) : Prop := ¬ Y dx ∧ dx ≠ 365 ∧ dx ≠ 360 ∧ K.lookup dx = none ∧ ∀ o, ¬ KP dx o
noncomputable def CtrO (K : Frag) (p : Program) (w : World) (n : Nat) (f : Value) (C : Addr) (fs : List (Str × V)) (args : List V) (fs' : List (Str × V)) : Prop :=
  ∀ (A : Around) (R : Result → Shared → Prop) (s : Shared) (KP : Addr → Obj → Prop) (Y : Addr → Prop) (b dx : Addr) (vs : List Value),
    Rm n A → KPok KP → (∀ b o, KP b o → s.heap.get? b = some o) → (∀ h', (∀ b o, KP b o → h'.get? b = some o) → Wd K h') → Live K Y s.heap →
    OwnIs s.heap (fun a => Y a ∨ a = dx) (.ref b) dx (.inst none C fs) → OwnAt K KP Y dx → RepL s.heap (fun a => Y a ∨ a = dx) vs args →
    (∀ h' tk, (∀ b o, KP b o → h'.get? b = some o) → Live K Y h' → OwnIs h' (fun a => Y a ∨ a = dx) (.ref b) dx (.inst none C fs') → R (.ok (.ret .none)) { s with heap := h', toks := tk }) →
    codeAny (model p w) A (.call f ⟨.ref b :: vs, []⟩) R s

/-- a method that changes self: what is looked up -/
structure MetOk (K : Frag) (fa : Addr) (fd : FuncData) (ps : List Str) (body : List Stmt) : Prop where
  lk : ∃ oc od osl, K.lookup fa = some ⟨oc, od, .func fd, osl⟩
  code : codeIn K fd.code fd.qualname = true
  body : fd.body = .stmts body
  gl : fd.globals = mainGlobals
  bi : fd.builtins = builtinsNs
  kd : fd.scope.kind = .function
  co : fd.scope.isCoroutine = false
  ge : fd.scope.isGenerator = false
  cl : fd.closure = []
  nc : ∀ x ∈ fd.scope.names, x.2 ≠ .cell
  cq : codeOf fd.scope = none
  bind : ∀ (s : Shared) (vs : List Value), K.In s.heap → vs.length = ps.length → BindsTo s fd ⟨vs, []⟩ (ps.zip vs)

theorem reverse_lookup {α β : Type} [BEq α] [LawfulBEq α] {x : α} {v : β} : ∀ {l : List (α × β)}, (l.map (·.1)).Nodup → (x, v) ∈ l → l.reverse.lookup x = some v
  | (y, u) :: r, nd, h => by
    rw [List.map_cons, List.nodup_cons] at nd
    rw [List.reverse_cons, List.lookup_append]
    rcases List.mem_cons.mp h with h | h
    · cases h
      have : r.reverse.lookup x = none := by
        rw [List.lookup_eq_none_iff]
        intro p hp
        rw [List.mem_reverse] at hp
        rw [bne_iff_ne]
        intro z
        exact nd.1 (List.mem_map.mpr ⟨p, hp, z.symm⟩)
      rw [this]
      simp
    · rw [reverse_lookup nd.2 h]; rfl

theorem ctrO_of_tr {fa : Addr} {fd : FuncData} {self : Str} {ps rest : List Str} {body : List Stmt} {args : List V} {C : Addr} {fs fs' : List (Str × V)} (D : MetOk K fa fd (self :: ps) body) (hx : xs = (self :: ps) ++ rest) (nd : xs.Nodup) (hl : args.length = ps.length)
    (hp : ∀ x ∈ self :: ps, fd.scope.names.lookup x = some .local)
    (T : ∀ id, Tr K p w n fd.scope cm xs (some (true, .inst (some id) C fs) :: entry args rest.length) body (fun ρ => ρ[0]? = some (some (true, .inst (some id) C fs'))) (fun ρ f e => e = .none ∧ ρ[0]? = some (some (true, .inst (some id) C fs')))) : CtrO K p w (n + 1) (.ref fa) C fs args fs' :=
  fun A R s KP Y b dx vs r kp keep wdk lv ow off rp po => by
    obtain ⟨oc, od, osl, lk⟩ := D.lk
    have wd : Wd K s.heap := wdk _ keep
    have hvl : vs.length = ps.length := rp.length.trans hl
    have nps : (((self :: ps).zip (Value.ref b :: vs)).map (·.1)).Nodup := by
      rw [List.map_fst_zip (by simp; omega)]
      exact (hx ▸ nd).sublist (List.sublist_append_left ..)
    have lt365 : 365 < s.heap.objs.size := by
      obtain ⟨o, e⟩ := Option.isSome_iff_exists.mp lv.1.1
      exact Heap.lt_size e
    have lt360 : 360 < s.heap.objs.size := by omega
    have gL := get?_size s.heap
    have kL : K.lookup s.heap.objs.size = none := by
      cases e : K.lookup s.heap.objs.size with
      | none => rfl
      | some o => have := wd.k _ o e; rw [gL] at this; exact nn this
    refine codeAny_call_def r.room (wd.k _ _ lk) rfl wd.lim (codeRec_of wd.k D.code) D.body (D.bind s (.ref b :: vs) wd.k (by simp [hvl])) D.nc (fun x hx' => ?_) (fun h₁ hns k₁ => ?_) D.co D.ge D.kd
    · obtain ⟨a, c⟩ := x
      exact hp a (List.of_mem_zip hx').1
    · have hL : (callEnv fd s.heap.objs.size fa).locals = s.heap.objs.size := rfl
      have hC : (callEnv fd s.heap.objs.size fa).cells = fd.closure := rfl
      have l₁ : Le Y s.heap h₁ := .of_keep k₁
      have eo : EnvOk fd.scope (callEnv fd s.heap.objs.size fa) := ⟨rfl, D.gl, D.bi, D.kd, by rw [hL]; exact Nat.ne_of_gt lt365, by rw [hL]; exact Nat.ne_of_gt lt360, fun q z => by rw [D.cq] at z; exact nn z⟩
      have noc : ∀ (y : Str) (c : Addr), (callEnv fd s.heap.objs.size fa).cells.lookup y = some c → False := fun y c e => by rw [hC, D.cl] at e; cases e
      have faL : ∀ a, Fa cm (callEnv fd s.heap.objs.size fa) a → a = s.heap.objs.size := fun a z => by
        rcases z with z | ⟨_, y, z⟩
        · exact z
        · exact (noc y a z).elim
      have nYL : ∀ {X : Addr → Prop}, Live K X s.heap → ¬ X s.heap.objs.size := fun lx z => by have := (lx.1.2.2 _ z).1; rw [gL] at this; exact ff this
      obtain ⟨dxo, hdx, _⟩ := ow.alive
      have ndxL : dx ≠ s.heap.objs.size := fun z => by rw [z, gL] at hdx; exact nn hdx
      let ρ₀ : List Ent := some (true, .inst (some (b, dx)) C fs) :: entry args rest.length
      have own0 : ∀ {i : Nat} {d : V}, ρ₀[i]? = some (some (true, d)) → i = 0 ∧ d = .inst (some (b, dx)) C fs := fun {i d} e => by
        cases i with
        | zero => cases e; exact ⟨rfl, rfl⟩
        | succ i => obtain ⟨_, _, _, z⟩ := entry_get (by simpa [ρ₀] using e); cases z
      have hX : ∀ a, Xs cm Y (callEnv fd s.heap.objs.size fa) ρ₀ (fun _ => dx) a → (Y a ∨ a = dx) ∨ a = s.heap.objs.size := fun a z => by
        rcases z with z | z | ⟨i, d, e, z⟩
        · exact .inl (.inl z)
        · exact .inr (faL a z)
        · exact .inl (.inr z.symm)
      have up : ∀ b o, s.heap.get? b = some o → Av (fun a => Y a ∨ a = dx) b → h₁.get? b = some o ∧ Av (Xs cm Y (callEnv fd s.heap.objs.size fa) ρ₀ (fun _ => dx)) b := fun b o e av => ⟨k₁ b o e, fun z => (hX b z).elim av.1 fun z => (by rw [z, gL] at e; exact nn e), av.2⟩
      have S : Sn K fd.scope cm KP Y (callEnv fd s.heap.objs.size fa) xs ρ₀ (fun _ => dx) h₁ := by
        refine ⟨fun b o q => l₁.keep b o (kp b o q).1 (kp b o q).2 (keep b o q), wdk, lv.b.le l₁, fun a z => ?_, ⟨_, hns⟩, fun i x d' q1 q2 => ?_, fun i x d' q1 q2 => ?_, ?_, fun i j x q1 q2 => ?_, fun x q => ?_, ⟨fun y c e => (noc y c e).elim, fun y z c e => (noc y c e).elim⟩, fun i d' q => ?_, fun i j d' e' q1 q2 _ => ?_, ?_, fun q => (q D.cq).elim⟩
        · rw [faL a z]
          refine ⟨by obtain ⟨o, _, _, e, _⟩ := hns; rw [e]; rfl, nYL lv, Nat.ne_of_gt lt365, Nat.ne_of_gt lt360, kL, fun o q => by have := keep _ o q; rw [gL] at this; exact nn this⟩
        · cases i with
          | zero => cases q2
          | succ i =>
            obtain ⟨hi, d₂, e1, e2⟩ := entry_get (by simpa [ρ₀] using q2)
            cases e2
            rw [List.getElem?_map, Option.map_eq_some_iff] at q1
            obtain ⟨x', e3, rfl⟩ := q1
            have e4 : ps[i]? = some x' := by
              rw [hx, List.cons_append, List.getElem?_cons_succ, List.getElem?_append_left (by omega)] at e3
              exact e3
            obtain ⟨v, e5, rv⟩ := rp.get i _ e1
            have hm : (x', v) ∈ (self :: ps).zip (Value.ref b :: vs) := by
              rw [List.zip_cons_cons]
              refine List.mem_cons_of_mem _ (List.mem_of_getElem? (i := i) ?_)
              rw [List.getElem?_zip_eq_some]
              exact ⟨e4, e5⟩
            exact ⟨v, .inl ⟨hp x' (List.mem_cons_of_mem _ (List.mem_of_getElem? e4)), _, hns, reverse_lookup nps hm⟩, rv.imp up⟩
        · obtain ⟨rfl, rfl⟩ := own0 q2
          rw [List.getElem?_map, hx] at q1
          cases q1
          refine ⟨.ref b, .inl ⟨hp self (List.mem_cons_self ..), _, hns, reverse_lookup nps (by rw [List.zip_cons_cons]; exact List.mem_cons_self ..)⟩, ?_⟩
          cases ow with
          | inst b1 b2 a1 r pin => exact .inst (up _ _ b1 b2).1 (up _ _ b1 b2).2 (k₁ _ _ a1) (r.imp up) (fun q z => by cases z; rfl)
        · rw [List.length_map, hx]; simp [ρ₀, entry, hl]
        · rw [List.getElem?_map, Option.map_eq_some_iff] at q1 q2
          obtain ⟨a, a1, a2⟩ := q1
          obtain ⟨b, b1, b2⟩ := q2
          cases a2; cases b2
          exact (List.getElem?_inj (List.getElem?_eq_some_iff.mp a1).1 nd).mp (a1.trans b1.symm)
        · exact (D.nc _ (mem_of_lookup q) rfl).elim
        · exact ⟨fun z => ndxL (faL _ z), off⟩
        · rw [(own0 q1).1, (own0 q2).1]
        · refine lv.t.imp (fun o e => k₁ _ o e) (fun o e => k₁ _ o e) fun b o vs e dv av => ⟨k₁ b o e, fun z => ?_, av.2⟩
          rcases hX b z with (z | z) | z
          · exact av.1 z
          · exact ow.notCode o vs (z ▸ e) dv
          · rw [z, gL] at e; exact nn e
      have fin : ∀ (ρ' : List Ent) (oa' : Nat → Addr) (h' : Heap) (tk : Nat), Sn K fd.scope cm KP Y (callEnv fd s.heap.objs.size fa) xs ρ' oa' h' → ρ'[0]? = some (some (true, .inst (some (b, dx)) C fs')) → R (.ok (.ret .none)) { s with heap := h', toks := tk } := fun ρ' oa' h' tk S' e0 => by
        refine po h' tk S'.keep ⟨S'.live, S'.tabs.mono fun _ z => .inl z⟩ ?_
        obtain ⟨v, _, o⟩ := S'.own 0 (.nm self) _ (by rw [hx]; rfl) e0
        generalize hq : oa' 0 = q at o
        cases o with
        | inst b1 b2 a1 r pin =>
          cases pin _ rfl
          have sub : ∀ a, (Y a ∨ a = dx) → Xs cm Y (callEnv fd s.heap.objs.size fa) ρ' oa' a := fun a z => z.elim .inl fun z => .inr (.inr ⟨0, _, e0, hq.trans z.symm⟩)
          exact .inst b1 (b2.mono sub) a1 (r.imp fun _ _ e av => ⟨e, av.mono sub⟩) (fun _ z => by exact nn z)
      refine T (b, dx) _ _ { s with heap := h₁, toks := _ } KP Y _ _ _ r.deeper eo kp S (fun ρ' oa' h' tk f S' => ?_) (fun ρ' oa' f e v h' tk q S' rv fv => ?_)
      · exact fin ρ' oa' h' tk S' f
      · obtain ⟨rfl, q⟩ := q
        cases rv using Rep.casesNone
        exact fin ρ' oa' h' tk S' q
end Mine

-- B17
namespace Mine
variable {K : Frag} {p : Program} {w : World} {n : Nat} {sc : Scope} {cm : Bool} {xs : List Str} {ρ : List Ent}

theorem Rm.made {A : Around} {C : Addr} {vs : List Value} (r : Rm (n + 1) A) : Rm n (A.under (.builtin "type.__call__" ⟨.ref C :: vs, []⟩)) := by
  have hw : (Code.builtin "type.__call__" ⟨.ref C :: vs, []⟩).weight ≤ 1 := Nat.le_of_ble_eq_true rfl
  have hu : (Code.builtin "type.__call__" ⟨.ref C :: vs, []⟩).cUnits ≤ 20 := Nat.le_of_ble_eq_true rfl
  have hg : (Code.builtin "type.__call__" ⟨.ref C :: vs, []⟩).guards = [] := rfl
  refine ⟨r.hd, ?_, ?_, ?_⟩
  · unfold Around.under
    simp only [hg, r.gs]; rfl
  · show A.depth + _ + 3 * n ≤ 900
    have := r.dp; omega
  · show A.units + _ + 30 * n + 200 ≤ 9900
    have := r.un; omega
theorem OwnIs.inv {h : Heap} {X : Addr → Prop} {v : Value} {a : Addr} {id : Option (Addr × Addr)} {C : Addr} {fs : List (Str × V)} (o : OwnIs h X v a (.inst id C fs)) : ∃ b es m, v = .ref b ∧ h.get? b = some (instObj C a) ∧ Av X b ∧ h.get? a = some (dictOf es m) ∧ RepF h X es fs ∧ (∀ q, id = some q → q = (b, a)) := by
  cases o with
  | inst b1 b2 a1 r pin => exact ⟨_, _, _, rfl, b1, b2, a1, r, pin⟩
/-- a class is called -/
theorem ctr_make {C fI : Addr} {args : List V} {fs : List (Str × V)} (hm : makesIn K C = true) (hi : findIn K (.ref C) "__init__" = some (some (.ref fI))) (hf : typeIn K (.ref fI) = some (.type "function")) (c : CtrO K p w n (.ref fI) C [] args fs) :
    Ctr K p w (n + 1) (.ref C) args true (.inst none C fs) :=
  fun A E s X vs Q r wd lv rp po => by
    refine wpAny_call ?_
    obtain ⟨hh, g, d, t, os⟩ := s
    refine make_core (makes_of wd.k hm) (looks_findIn wd.k hi) (fun self => bind_fn wd.k self hf) (.inl rfl) ?_
    have e1 := get?_size hh
    have k1 : ∀ b o, hh.get? b = some o → ((hh.push emptyDict).push (instObj C hh.objs.size)).get? b = some o := fun b o e => Heap.get?_push_of_some _ (Heap.get?_push_of_some _ e)
    have l1 : Le X hh ((hh.push emptyDict).push (instObj C hh.objs.size)) := .of_keep k1
    have sz : (hh.push emptyDict).objs.size = hh.objs.size + 1 := Heap.size_push ..
    have gx : ((hh.push emptyDict).push (instObj C hh.objs.size)).get? (hh.objs.size + 1) = some (instObj C hh.objs.size) := by
      rw [← sz]; exact Heap.get?_push_size _ rfl
    have gd : ((hh.push emptyDict).push (instObj C hh.objs.size)).get? hh.objs.size = some (dictOf [] 0) := Heap.get?_push_of_some _ (Heap.get?_push_size _ rfl)
    have e2 : hh.get? (hh.objs.size + 1) = none := by
      cases q : hh.get? (hh.objs.size + 1) with
      | none => rfl
      | some o => exact absurd (Heap.lt_size q) (Nat.not_lt.mpr (Nat.le_succ _))
    have av1 : Av X hh.objs.size := lv.new e1
    have av2 : Av X (hh.objs.size + 1) := lv.new e2
    have fresh : ∀ b o, hh.get? b = some o → Av X b → ((hh.push emptyDict).push (instObj C hh.objs.size)).get? b = some o ∧ Av (fun a => X a ∨ a = hh.objs.size) b := fun b o e av => ⟨k1 b o e, fun z => z.elim av.1 fun z => (by rw [z, e1] at e; exact nn e), av.2⟩
    refine c _ _ ⟨_, g, d, t, os⟩ (HP hh) X (hh.objs.size + 1) hh.objs.size vs r.made (fun _ _ q => ⟨q.1, q.2.1⟩) (fun b o q => k1 b o q.2.2) (fun h' k => wd.keeps fun b o n1 n2 e => k b o ⟨n1, n2, e⟩) (lv.le l1)
      (.inst gx ⟨fun z => z.elim av2.1 (by intro z; exact absurd z (Nat.succ_ne_self _)), av2.2⟩ gd .nil (fun _ z => by exact nn z)) ⟨av1.1, av1.2.1, av1.2.2, ?_, fun o q => by have := q.2.2; rw [e1] at this; exact nn this⟩ (rp.imp fresh) fun h' tk k lv' ow => ?_
    · cases q : K.lookup hh.objs.size with
      | none => rfl
      | some o => have := wd.k _ o q; rw [e1] at this; exact nn this
    · refine ⟨rfl, ?_⟩
      have l' : Le X hh h' := ⟨fun b o n1 n2 e => k b o ⟨n1, n2, e⟩, fun b e => by
        by_cases h1 : b = 365
        · rw [h1]; exact lv'.1.1
        · by_cases h2 : b = 360
          · rw [h2]; exact lv'.1.2.1
          · obtain ⟨o, q⟩ := Option.isSome_iff_exists.mp e
            rw [k b o ⟨h1, h2, q⟩]; rfl, fun _ => lv'.t⟩
      refine po (.ref (hh.objs.size + 1)) h' tk l' (ow.rep (fun _ z => .inl z) av1) fun _ => ?_
      obtain ⟨b, _, _, e, b1, _⟩ := ow.inv
      cases e
      exact ⟨_, rfl, fun C' dx' e o q => (by rw [b1] at e; cases e; have := q.2.2; rw [e1] at this; exact nn this), fun o e cc => (by rw [b1] at e; cases e; cases cc)⟩

/-- what a method's name asks of the class -/
noncomputable def metOk (K : Frag) (C : Addr) (x : Str) (f : Addr) : Bool := findIn K (.ref C) "__getattribute__" == some (some (.builtin "object.__getattribute__")) && findIn K (.ref C) "__getattr__" == some none && findIn K (.ref C) x == some (some (.ref f)) && typeIn K (.ref f) == some (.type "function") && keepIn K (.ref f)
theorem metOk_split {C f : Addr} {x : Str} (h : metOk K C x f = true) : findIn K (.ref C) "__getattribute__" = some (some (.builtin "object.__getattribute__")) ∧ findIn K (.ref C) "__getattr__" = some none ∧ findIn K (.ref C) x = some (some (.ref f)) ∧ typeIn K (.ref f) = some (.type "function") ∧ keepIn K (.ref f) = true := by
  unfold metOk at h
  simp only [Bool.and_eq_true, beq_iff_eq] at h
  obtain ⟨⟨⟨⟨a, b⟩, c⟩, d⟩, e⟩ := h
  exact ⟨a, b, c, d, e⟩
/-- o.f(..), o an object of a class that is only read -/
theorem Evs.method {ρ : List (Option V)} {o : Expr} {x : Str} {apos pos : Pos} {es : List Expr} {ds : List V} {C f : Addr} {id : Option (Addr × Addr)} {fs : List (Str × V)} {fr : Bool} {d : V} (h1 : Evs K p w n sc xs ρ o false (.inst id C fs)) (t : EvL K p w n sc xs ρ es ds) (c : Ctr K p w n (.ref f) (.inst id C fs :: ds) fr d)
    (ok : metOk K C x f = true) (hm : fs.lookup x = none := by rfl) (hu : es.all unstar = true := by rfl) (hn : es.length < 30 := by decide) (hline : (apos.endLine == pos.line) = true := by rfl) (hbase : ∀ env, attributeBase o x env (eval o env) = eval o env := by intro _; rfl) :
    Evs K p w n sc xs ρ (.Call (.Attribute o x apos) es [] pos) fr d :=
  fun A E s X env Q r eo wd lv va po => by
    obtain ⟨m1, m2, m3, m4, m5⟩ := metOk_split ok
    refine eval_method (hbase env) hu hn hline (h1.two r eo wd lv va fun v h' tk l rp wd' lv' va' => ?_)
    have rp0 := rp
    cases rp using Rep.casesInst with
    | inst b1 b2 a1 a2 rf pin =>
      rename_i xa dxa esa ma
      have I : InstAt h' xa (instObj C dxa) C (some (dictOf esa ma)) := ⟨b1, rfl, rfl, b2⟩
      refine ⟨.ref f, [.ref _], fun pl Q' q => method_fn (s := { s with heap := h', toks := tk }) wd'.k I m1 m2 m3 m4 ?_ q, callWith_V (s := { s with heap := h', toks := tk }) (fds := [.inst id C fs]) t (.of m5) c hu (plain_trees hu) r eo wd' lv' va' (.cons rp0 .nil) (po.after l)⟩
      show (lookIn x (dictOf esa ma)).map (·.isSome) = some false
      rw [lookIn_dict, rf.miss hm]; rfl
theorem Stt.temps {KP : Addr → Obj → Prop} {Y : Addr → Prop} {env : Env} {oa : Nat → Addr} {h : Heap} {vs : List Value} {l : List (Bool × V)} (S : Stt K sc cm KP Y env (xs.map .nm ++ vs.map .val) (ρ ++ l.map some) oa h) (hρ : ρ.length = xs.length) (hl : l.all (fun q => !q.1) = true) (hv : vs.length = l.length) :
    RepL h (Xs cm Y env (ρ ++ l.map some) oa) vs (l.map (·.2)) := by
  refine RepL.of_get _ _ (by rw [List.length_map]; exact hv) fun j v d e1 e2 => ?_
  rw [List.getElem?_map, Option.map_eq_some_iff] at e2
  obtain ⟨⟨o, d'⟩, e3, rfl⟩ := e2
  have ho : o = false := by
    have := List.all_eq_true.mp hl _ (List.mem_of_getElem? e3)
    simpa using this
  subst ho
  obtain ⟨u, hu, r⟩ := S.fro (xs.length + j) (.val v) d' (by rw [List.getElem?_append_right (by simp)]; simp [e1]) (by rw [← hρ, List.getElem?_append_right (by simp)]; simp [e3])
  cases hu
  exact r
theorem evalArgs_R {f : Value} {es : List Expr} {l : List (Bool × V)} {pos : Pos} {A : Around} {E : Value → Shared → Prop} {s : Shared} {KP : Addr → Obj → Prop} {Y : Addr → Prop} {env : Env} {oa : Nat → Addr} {Q : Args → Shared → Prop} (t : RhsL K p w n sc cm xs ρ es l) (hu : es.all unstar = true)
    (r : Rm n A) (eo : EnvOk sc env) (kp : KPok KP) (S : Sn K sc cm KP Y env xs ρ oa s.heap)
    (h : ∀ vs oa' h' tk, vs.length = l.length → Kp s.heap h' → Stt K sc cm KP Y env (xs.map .nm ++ vs.map .val) (ρ ++ l.map some) oa' h' → Q ⟨vs, []⟩ { s with heap := h', toks := tk }) : wpAny (model p w) A (evalArgs f true (backTo pos (starEach es env)) []) Q E s := by
  have t' := t A E s KP Y env _ ρ oa pos (fun vs s' => Q ⟨vs, []⟩ s') r eo kp nmOk preRefl S h
  cases es with
  | nil => exact fun Γ ps hΓ => evalArgs_nil3 (t' Γ ps hΓ) Γ ps hΓ
  | cons e es =>
    have hu' : unstar e = true := (Bool.and_eq_true_iff.mp hu).1
    rw [starEach_plain hu'] at t' ⊢
    exact Calls.evalArgs_plain t'
/-- x.f(..), x an own object of a class that is changed -/
theorem Tr1.call {x f : Str} {np apos pos spos : Pos} {es : List Expr} {l : List (Bool × V)} {C fa : Addr} {fs fs' : List (Str × V)} {i : Nat} {Ψ : PostR} (h : RhsL K p w n sc cm xs ρ es l) (hl : l.all (fun q => !q.1) = true) (c : CtrO K p w n (.ref fa) C fs (l.map (·.2)) fs') (hi : xs[i]? = some x) (hd : ρ[i]? = some (some (true, .inst none C fs)))
    (ok : metOk K C f fa = true) (hm : fs.lookup f = none := by rfl) (hu : es.all unstar = true := by rfl) (hn : es.length < 30 := by decide) (hline : (apos.endLine == pos.line) = true := by rfl) (h1 : (x == ("__debug__" : Str)) = false := by decide +kernel) (h2 : (x == ("__classdict__" : Str)) = false := by decide +kernel) :
    Tr1 K p w n sc cm xs ρ (.Expr (.Call (.Attribute (.Name x np) f apos) es [] pos) spos) (· = ρ.set i (some (true, .inst none C fs'))) Ψ :=
  fun A E s KP Y env oa Q r eo kp S qn qr => by
    obtain ⟨m1, m2, m3, m4, m5⟩ := metOk_split ok
    have hρ : ρ.length = xs.length := by have := S.dom; simpa using this
    have hlt : i < ρ.length := (List.getElem?_eq_some_iff.mp hd).1
    refine wpAny_Expr_any ?_ (notInteractive eo) rfl
    obtain ⟨v, hh, ow⟩ := S.own i _ _ (nmOk i x hi) hd
    generalize ha : oa i = a at ow
    cases ow with
    | inst b1 b2 a1 rf pin =>
      rename_i b es' m
      have I : InstAt s.heap b (instObj C a) C (some (dictOf es' m)) := ⟨b1, rfl, rfl, a1⟩
      refine eval_method rfl hu hn hline (wpAny_Name (hh.load eo h2 ⟨.ref fa, [.ref b], fun pl Q' q => method_fn S.world.k I m1 m2 m3 m4 ?_ q, ?_⟩) h1)
      · show (lookIn f (dictOf es' m)).map (·.isSome) = some false
        rw [lookIn_dict, rf.miss hm]; rfl
      · refine callWith_of (P := fun h => K.In h) (plain_trees hu) (KeepOk.of m5) (evalArgs_R h hu r eo kp S fun vs oa' h' tk hv lg S' => ⟨S'.world.k, ?_⟩)
        have hi' : (ρ ++ l.map some)[i]? = some (some (true, .inst none C fs)) := by rw [List.getElem?_append_left hlt]; exact hd
        have hx' : (xs.map Slot.nm ++ vs.map Slot.val)[i]? = some (.nm x) := by
          rw [List.getElem?_append_left (by rw [List.length_map, ← hρ]; exact hlt), List.getElem?_map, hi]; rfl
        obtain ⟨v', hh', ow'⟩ := S'.own i _ _ hx' hi'
        obtain ⟨b', es2, m2', rfl, c1, c2, c3, c4, _⟩ := ow'.inv
        have hkb := hh.keepK eo lg
        cases hkb.det hh'
        have off := S'.off i _ hi'
        have ftx : Xs cm Y env (ρ ++ l.map some) oa' (oa' i) := .inr (.inr ⟨i, _, hi', rfl⟩)
        have sub : ∀ q, ((Xs cm Y env (ρ ++ l.map some) oa' q ∧ q ≠ oa' i) ∨ q = oa' i) → Xs cm Y env (ρ ++ l.map some) oa' q := fun q z => z.elim (·.1) fun z => z ▸ ftx
        have sub2 : ∀ q, Xs cm Y env (ρ ++ l.map some) oa' q → ((Xs cm Y env (ρ ++ l.map some) oa' q ∧ q ≠ oa' i) ∨ q = oa' i) := fun q z => by
          by_cases hq : q = oa' i
          · exact .inr hq
          · exact .inl ⟨z, hq⟩
        have lx := S'.liveX
        refine wpAny_call (c A _ { s with heap := h', toks := tk } (fun q o => HP h' q o ∧ q ≠ oa' i) (fun q => Xs cm Y env (ρ ++ l.map some) oa' q ∧ q ≠ oa' i) b (oa' i) vs r (fun _ _ q => ⟨q.1.1, q.1.2.1⟩) (fun _ _ q => q.1.2.2)
          (fun h'' k => S'.wd h'' fun q o z => k q o ⟨⟨(kp q o z).1, (kp q o z).2, S'.keep q o z⟩, fun y => off.2.2.2.2.2 o (y ▸ z)⟩) ⟨⟨lx.1.1, lx.1.2.1, fun q z => lx.1.2.2 q z.1⟩, lx.t.mono fun _ z => z.1⟩ (ow'.imp (fun _ e => e) fun _ _ e av => ⟨e, av.mono sub⟩)
          ⟨fun z => z.2 rfl, off.2.2.1, off.2.2.2.1, off.2.2.2.2.1, fun o z => z.2 rfl⟩ ((S'.temps hρ hl hv).sub sub) fun h'' tk'' k'' lv'' ow'' => ?_)
        refine qn _ oa' h'' tk'' rfl ?_
        have S2 := S'.mutateLe (h' := h'') (d' := .inst none C fs') kp eo hi' (fun q o n1 n2 n3 e => k'' q o ⟨⟨n2, n3, e⟩, n1⟩) (fun q e => ?_) (lv''.t.but fun q z => ?_) (fun z u z1 z2 o => ?_)
        · rw [List.set_append_left _ _ hlt] at S2
          exact S2.dropTemps (by rw [List.length_set]; exact hρ)
        · by_cases n1 : q = oa' i
          · obtain ⟨o, g, _⟩ := ow''.alive
            rw [n1, g]; rfl
          · by_cases n2 : q = 365
            · rw [n2]; exact lv''.1.1
            · by_cases n3 : q = 360
              · rw [n3]; exact lv''.1.2.1
              · obtain ⟨o, g⟩ := Option.isSome_iff_exists.mp e
                rw [k'' q o ⟨⟨n2, n3, g⟩, n1⟩]; rfl
        · by_cases hq : q = oa' i
          · exact .inr (hq ▸ ow''.notCode)
          · exact .inl ⟨z, hq⟩
        · rw [hx'] at z1; cases z1
          cases z2.det hh'
          exact ow''.imp (fun _ e => e) fun _ _ e av => ⟨e, av.mono sub2⟩
end Mine

-- B18
namespace Mine
variable {K : Frag} {p : Program} {w : World} {n : Nat} {sc : Scope} {cm : Bool} {xs : List Str}

/-! a whole heap as the library's news; the frame's own place is let out -/
noncomputable def allBut (h : Heap) (L : Addr) : List (Addr × Obj) := (List.range h.objs.size).filterMap fun b => if b = L then none else (h.get? b).map fun o => (b, o)
theorem mem_allBut {h : Heap} {L b : Addr} {o : Obj} : (b, o) ∈ allBut h L ↔ b ≠ L ∧ h.get? b = some o := by
  unfold allBut
  rw [List.mem_filterMap]
  constructor
  · rintro ⟨c, hc, e⟩
    by_cases q : c = L
    · rw [if_pos q] at e; exact nn e
    · rw [if_neg q, Option.map_eq_some_iff] at e
      obtain ⟨o', e1, e2⟩ := e
      cases e2
      exact ⟨q, e1⟩
  · rintro ⟨q, e⟩
    refine ⟨b, List.mem_range.mpr (Heap.lt_size e), ?_⟩
    rw [if_neg q, e]; rfl
noncomputable def hE : Heap := {}
theorem hE_get (b : Addr) : hE.get? b = none := by
  cases e : hE.get? b with
  | none => rfl
  | some o => exact absurd (Heap.lt_size e) (Nat.not_lt_zero _)
theorem frE {h : Heap} {L : Addr} {m : Str → Option Value} (n : h.Ns L m) : Fr hE L h m := ⟨n, fun b o e => (by rw [hE_get] at e; exact nn e), Nat.zero_le _⟩
theorem newsE {h : Heap} {L : Addr} : News hE L h (allBut h L) := fun q hq => by
  obtain ⟨b, o⟩ := q
  obtain ⟨a, e⟩ := mem_allBut.mp hq
  exact ⟨e, a, hE_get b⟩
theorem newsE_keep {h h' : Heap} {L : Addr} {more : List (Addr × Obj)} (N : News hE L h' (allBut h L ++ more)) : ∀ b o, b ≠ L → h.get? b = some o → h'.get? b = some o := fun b o n e => (N (b, o) (List.mem_append_left _ (mem_allBut.mpr ⟨n, e⟩))).1
theorem newsE_keep1 {h h' : Heap} {L : Addr} {q : Addr × Obj} (N : News hE L h' (q :: allBut h L)) : ∀ b o, b ≠ L → h.get? b = some o → h'.get? b = some o := fun b o n e => (N (b, o) (List.mem_cons_of_mem _ (mem_allBut.mpr ⟨n, e⟩))).1


/-! sorted -/
noncomputable def sortI (l : List Int) : List Int := l.mergeSort (fun a b => decide (a ≤ b))
theorem sortI_perm (l : List Int) : (sortI l).Perm l := List.mergeSort_perm ..
theorem sortI_asc (l : List Int) : (sortI l).Pairwise (· ≤ ·) := by
  have := List.pairwise_mergeSort (le := fun a b : Int => decide (a ≤ b)) (fun a b c h1 h2 => by simp at h1 h2 ⊢; omega) (fun a b => by simp; omega) l
  exact this.imp fun h => by simpa using h
theorem sortI_uniq {a l : List Int} (p : a.Perm l) (h : a.Pairwise (· ≤ ·)) : a = sortI l := ksm_same (p.trans (sortI_perm l).symm) h (sortI_asc l)
noncomputable def gpair (c : Int) : V := .tuple [.int c, .int c]
/-- a function that tells a pair's first; it only makes new things -/
noncomputable def KeyC (K : Frag) (p : Program) (w : World) (n : Nat) (f : Value) : Prop :=
  ∀ (A : Around) (E : Value → Shared → Prop) (h0 : Heap) (L : Addr) (m : Str → Option Value) (s : Shared) (X : Addr → Prop) (v : Value) (c : Int) (Q : Value → Shared → Prop), A.handled = none → A.depth < recursionLimit → Wd K h0 → h0.Ns L m → (∀ b o, b ≠ L → h0.get? b = some o → s.heap.get? b = some o) → s.heap.Ns L m →
    Rep h0 X v (gpair c) → (∀ h' tk t, (∀ b o, s.heap.get? b = some o → h'.get? b = some o) → Q (.int c t) { s with heap := h', toks := tk }) → wpAny (model p w) A (call f [v]) Q E s
theorem RepL.of_pairs {h h' : Heap} {X X' : Addr → Prop} {g : Int → V} : ∀ (ps : List (Int × Value)), (∀ q ∈ ps, Rep h' X' q.2 (g q.1)) → RepL h' X' (ps.map (·.2)) ((ps.map (·.1)).map g)
  | [], _ => .nil
  | q :: ps, hq => .cons (hq q (List.mem_cons_self ..)) (RepL.of_pairs (h := h) (X := X) ps fun r hr => hq r (List.mem_cons_of_mem _ hr))
theorem call_sortedKey {fa L : Addr} {m : Str → Option Value} (hk : KeyC K p w n (.ref fa)) {A : Around} {E : Value → Shared → Prop} {s : Shared} {X : Addr → Prop} {v : Value} {cs : List Int} {Q : Value → Shared → Prop} (r : Rm n A) (wd : Wd K s.heap) (lv : Live K X s.heap) (nL : s.heap.Ns L m) (hL : X L) (n1 : L ≠ 365) (n2 : L ≠ 360) (rp : Rep s.heap X v (.list (cs.map gpair))) (h64 : cs.length < 64)
    (po : ∀ v h' tk, LeL L X s.heap h' → Rep h' X v (.list ((sortI cs).map gpair)) → Q v { s with heap := h', toks := tk }) : wpAny (model p w) A (call (.builtin "sorted") [v] [(Str.ofString "key", .ref fa)]) Q E s := by
  cases rp using Rep.casesList with
  | list a1 a2 a3 a4 a5 =>
    rename_i l o items k
    have hz := a5.length
    rw [Array.length_toList, List.length_map] at hz
    have il : s.heap.IsList l items.toList.toArray := by rw [Array.toArray_toList]; exact IsList.of a1 a2 a3
    refine ksk_sorted (frE nL) newsE il hz.symm (by rw [← hz] at h64; exact h64) (ksk_s1 _ _) (fun _ => ksk_l1 _ _) (fun x => ksk_t1 fa x) (fun i v k hv hkz h tk own F N => ?_) fun D h' tk out c F N hD ho => ?_
    · obtain ⟨d, e1, e2⟩ := a5.get' i v hv
      rw [List.getElem?_map, hkz] at e1
      cases e1
      have hd2 : A.in1.in1.depth < recursionLimit := r.room
      refine hk A.in1.in1 _ s.heap L m { s with heap := h, toks := tk } X v k _ r.hd hd2 wd nL (newsE_keep N) F.ns e2 fun h2 tk2 t kp => KskEnd.intro (F.keeps kp) (fun q hq => ⟨kp _ _ (N q hq).1, (N q hq).2⟩) fun q hq => hq
    · have k1 := newsE_keep1 N
      have g := (N _ (List.mem_cons_self ..)).1
      have gn : s.heap.get? D = none := by
        cases e : s.heap.get? D with
        | none => rfl
        | some o' => exact absurd (hD _ (mem_allBut.mpr ⟨(N _ (List.mem_cons_self ..)).2.1, e⟩)) (Nat.lt_irrefl _)
      obtain ⟨ps, pp, po2, pa⟩ := ho
      have e3 : ps.map (·.1) = sortI cs := by
        refine sortI_uniq ?_ ?_
        · have := pp.map (·.1)
          rw [List.map_fst_zip (Nat.le_of_eq hz.symm)] at this
          exact this
        · rw [List.pairwise_map]
          exact pa.imp fun h => by simpa using h
      refine po (.ref D) h' tk ⟨fun b o nb _ _ e => k1 b o nb e, fun b e => ?_, fun T => T.imp (fun o e => k1 _ o n1.symm e) (fun o e => k1 _ o n2.symm e) fun b o vs e _ av => ⟨k1 b o (fun q => av.1 (q ▸ hL)) e, av⟩, fun m' n' => (funext (Ns.det nL n') ▸ F.ns : h'.Ns L m')⟩ (.list g rfl rfl (lv.new gn) ?_)
      · by_cases hb : b = L
        · obtain ⟨o, es, ep, e, _⟩ := F.ns
          rw [hb, e]; rfl
        · obtain ⟨o, e⟩ := Option.isSome_iff_exists.mp e
          rw [k1 b o hb e]; rfl
      rw [po2, ← e3]
      refine RepL.of_pairs (h := s.heap) (X := X) ps fun q hq => ?_
      obtain ⟨j, hj⟩ := List.mem_iff_getElem?.mp (pp.mem_iff.mp hq)
      rw [List.getElem?_zip_eq_some] at hj
      obtain ⟨d, e4, e5⟩ := a5.get' j q.2 hj.2
      rw [List.getElem?_map, hj.1] at e4
      cases e4
      exact e5.imp fun b o e av => ⟨k1 b o (fun q => av.1 (q ▸ hL)) e, av⟩
end Mine

-- B19
namespace Mine
variable {K : Frag} {p : Program} {w : World} {n : Nat} {sc : Scope} {cm : Bool} {xs : List Str}

/-- for .. in sorted(e, key=f), e of pairs -/
theorem IterEvL.sortedKey {ρ : List (Option V)} {g : Bool} {t : Expr} {np fp kp pos : Pos} {e : Expr} {f : Str} {cs : List Int} {fa : Addr} {fr : Bool} (h : Evs K p w n sc xs ρ e fr (.list (cs.map gpair))) (hk : KeyC K p w n (.ref fa)) (h64 : cs.length < 64)
    (g1 : nsIn K mainGlobals "sorted" = some none) (g2 : nsIn K mainGlobals f = some (some (.ref fa))) (k1 : sc.names.lookup ("sorted" : Str) = some .globalImplicit := by rfl) (k2 : sc.names.lookup f = some .globalImplicit := by rfl)
    (hu : unstar e = true := by rfl) (hf : (f == ("__debug__" : Str)) = false := by decide +kernel) : IterEvL K p w n sc xs ρ g t (.Call (.Name "sorted" np) [e] [⟨some "key", .Name f fp, kp⟩] pos) ((sortI cs).map gpair) :=
  fun A E s X env Q r eo wd lv va hX ⟨m, nL⟩ q => by
    refine wpAny_Call_Name_kw (eval_bname eo wd k1 g1 boot_sorted (by decide +kernel) (by decide +kernel) ?_)
    have hs : backTo pos (starEach [e] env) = [(false, eval e env)] := by rw [starEach_plain hu]; rfl
    refine callWith_kw (rest := []) ?_ (by rw [hs]; rfl) (by rw [hs]; rfl) rfl rfl
    rw [hs]
    refine Calls.spliced_cons (h.weak.two r eo wd lv va fun v h' tk l rp wd' lv' va' => Calls.spliced_nil ?_)
    refine evalAll_cons (wpAny_bind ?_)
    refine eval_gname (s := { s with heap := h', toks := tk }) eo wd' k2 g2 hf (wpAny_bind (wpAny_standAt (wpAny_pure (evalAll_nil ?_))))
    have l1 := l.toL eo.l1 eo.l2
    refine call_sortedKey (s := { s with heap := h', toks := tk }) hk r wd' lv' (l1.ns m nL) hX eo.l1 eo.l2 rp h64 fun v2 h2 tk2 l2 rp2 => ?_
    refine iter_list (g := g) (t := t) (s := { s with heap := h2, toks := tk2 }) r.hd ⟨⟨l2.live _ lv'.b.1, l2.live _ lv'.b.2.1, fun a z => ⟨l2.live a (lv'.b.2.2 a z).1, (lv'.b.2.2 a z).2⟩⟩, l2.tab lv'.t⟩ rp2 fun it h3 tk3 wr fp St k fr src => ?_
    refine q it h3 tk3 wr fp St ((l1.trans l2).trans ((Le.of_keep k).toL eo.l1 eo.l2)) (fun b hb => ?_) src
    cases e : s.heap.get? b with
    | none => rfl
    | some o =>
      have := (l1.trans l2).live b (by rw [e]; rfl)
      rw [show h2.get? b = none from fr b hb] at this; exact ff this

/-- a def that tells a pair's first -/
theorem keyC_of {fa : Addr} {fd : FuncData} {x : Str} {np ip pos ipos : Pos} {kk : Nat} (D : DefOk K fa fd [x] [.Return (some (.Subscript (.Name x np) (.Constant (.int 0) kk ip) pos)) ipos]) (hx : fd.scope.names.lookup x = some .local) (nc : ∀ y ∈ fd.scope.names, y.2 ≠ .cell) (h1 : (x == ("__debug__" : Str)) = false) : KeyC K p w n (.ref fa) :=
  fun A E h0 L m s X v c Q hh hd wd nL keep nL' rp po => by
    obtain ⟨oc, od, osl, lk⟩ := D.lk
    obtain ⟨oL, esL, epL, gL, dL, _⟩ := id nL
    have faL : fa ≠ L := fun z => by have := wd.k _ _ lk; rw [z, gL] at this; cases this; cases dL
    have ho := keep fa _ faL (wd.k _ _ lk)
    have lim : s.heap.NoLimit := by
      obtain ⟨mc, nc, e⟩ := wd.lim
      by_cases q : cStatics = L
      · subst q
        exact ⟨m, nL', (Ns.det nL nc _).trans e⟩
      · exact ⟨mc, Ns.le nc fun o e => keep _ o q e, e⟩
    have hcd : s.heap.CodeRec fd.code fd.qualname := by
      obtain ⟨c, o, vs, t, e, g, dv, r⟩ := codeRec_of wd.k D.code
      exact ⟨c, o, vs, t, e, keep c o (fun z => by rw [z, gL] at g; cases g; rw [dL] at dv; cases dv) g, dv, r⟩
    refine wpAny_call (codeAny_call_def (binds := [(x, v)]) hd ho rfl lim hcd D.body ?_ nc (fun y hy => ?_) (fun h₀ hns k₀ => ?_) D.co D.ge D.kd)
    · have := D.bind [v] rfl
      exact BindsTo.of_eq this
    · simp at hy; subst hy; exact hx
    · refine wpAny_execs_cons (wpAny_Return_some ?_)
      have hkf : (callEnv fd s.heap.objs.size fa).kindOf x = some .local := hx
      refine Subscript_ (wpAny_Name (wpAny_loadName_local D.kd hkf hns (v := v) (by simp) ?_) h1)
      refine wpAny_Constant_int ?_
      cases rp with
      | tuple a b cc e f =>
        rename_i ad o vs q
        have aL : ad ≠ L := fun z => by rw [z, gL] at a; cases a; rw [dL] at cc; cases cc
        have a' := k₀ _ _ (keep ad _ aL a)
        obtain ⟨u, g, ru⟩ := f.get 0 (.int c) rfl
        cases ru using Rep.casesInt
        have hz := f.length
        rw [Array.length_toList] at hz
        refine tail_any (s := { s with heap := h₀, toks := _ }) ⟨_, a', b⟩ slot_tuple_getitem.lookup (getItem_tuple (j := 0) ⟨_, a', b, _, cc⟩ (by decide) (by decide) ?_ (by simpa using g) ?_) (subOk rfl)
        · unfold seqIndex?
          rw [hz]; rfl
        · exact po _ _ _ k₀

/-- sorted of a dict with int keys -/
theorem ctr_sortedD {ks : List Int} (h64 : ks.length < 64) : Ctr K p w n (.builtin "sorted") [.idict ks] true (.list ((sortI ks).map .int)) :=
  fun A E s X vs Q r wd lv rp po => by
    cases rp using RepL.casesCons with
    | cons a1 q =>
      cases q using RepL.casesNil
      cases a1 using Rep.casesIdict with
      | idict a1 a2 a3 av =>
        rename_i d o
        obtain ⟨kvs, hk, hks⟩ := a2.2 p w
        have hD : s.heap.DictOf (intKind p w) d kvs := Heap.dictOf_iff.mpr ⟨o, a1, hk⟩
        obtain ⟨ep, hat⟩ := hD.dictAt
        have hlen : kvs.length = ks.length := by rw [← hks, List.length_map]
        refine Calls.call_function_entry kind_sorted plain_sorted entry_sorted (args_sorted1 _) ?_
        unfold Builtin.«sorted»
        refine wpAny_bind (m := checkCount "sorted" 1 1 _) (wpAny_pure ?_)
        refine wpAny_bind (kdu_collect (A := A.in1) (kdl_dict (knd := intKind p w) (kvs := kvs) (ep := ep) a3) r.hd hat (by rw [hlen, sizeLine_eq]; omega) fun h' tk acc hk hacc => ?_)
        have hl : acc.toList.length = kvs.length := by rw [Array.length_toList]; exact hacc.1
        have hI : IntsAre acc.toList ks := by
          rw [← hks]
          have gen : ∀ (vs : List Value) (kvs : List (Int × Value)), vs.length = kvs.length → (∀ (j : Nat) (v : Value), vs[j]? = some v → ∃ k x, kvs[j]? = some (k, x) ∧ (intKind p w).is k v = true) → IntsAre vs (kvs.map (·.1)) := by
            intro vs
            induction vs with
            | nil => intro kvs e _; cases kvs with
              | nil => exact .nil
              | cons _ _ => cases e
            | cons v vs ih =>
              intro kvs e h
              cases kvs with
              | nil => cases e
              | cons kv kvs =>
                obtain ⟨k, x, h1, h2⟩ := h 0 v rfl
                cases h1
                obtain ⟨t, rfl⟩ := Value.isInt_shape h2
                exact .cons _ _ (ih kvs (by simpa using e) fun j u hu => by simpa using h (j + 1) u (by simpa using hu))
          exact gen _ _ hl fun j v e => hacc.2 j v (by rw [← Array.getElem?_toList]; exact e)
        refine wpAny_bind (wpAny_newList ?_ (by rw [hl, hlen, sizeLine_eq]; omega))
        have hoL : (h'.push (seqObj "list" acc.toList.toArray 0)).get? h'.objs.size = some (seqObj "list" acc.toList.toArray 0) := Heap.get?_push_size _ rfl
        refine wpAny_bind (wpAny_holding (wpAny_call_entry slot_list_sort ⟨_, hoL, rfl⟩ entry_list_sort (list_sort_tree (s := { s with heap := h'.push (seqObj "list" acc.toList.toArray 0), toks := tk }) hoL hI (by rw [hl, hlen]; exact h64) fun out ns' i1 i2 i3 => ⟨_, rfl, ?_⟩) (args_list_sort _)))
        refine wpAny_pure ⟨_, rfl, ?_⟩
        obtain ⟨e, gout⟩ := sortedHeap_at (out := out) hoL
        have nw := get?_size h'
        have hn : s.heap.get? h'.objs.size = none := by
          cases q : s.heap.get? h'.objs.size with
          | none => rfl
          | some o' => have := hk _ _ q; rw [nw] at this; exact nn this
        have kk : ∀ b o, s.heap.get? b = some o → (sortedHeap (h'.push (seqObj "list" acc.toList.toArray 0)) h'.objs.size acc.toList out).get? b = some o := fun b o e => by
          have hb : b ≠ h'.objs.size := fun z => by rw [z, hn] at e; exact nn e
          have e2 := Heap.get?_push_of_some (seqObj "list" acc.toList.toArray 0) (hk _ _ e)
          rw [sortedHeap_old hb (Heap.lt_size e2)]; exact e2
        rw [← sortI_uniq i2 i3] at po
        refine po _ _ tk (.of_keep kk) (.list gout rfl rfl (lv.new hn) ?_) fun _ => fresh_seq (fun q z => by have := z.2.2; rw [hn] at this; exact nn this) gout rfl
        have gen : ∀ (vs : List Value) (ns : List Int), IntsAre vs ns → RepL (sortedHeap (h'.push (seqObj "list" acc.toList.toArray 0)) h'.objs.size acc.toList out) X vs (ns.map .int) := by
          intro vs ns h
          induction h with
          | nil => exact .nil
          | cons _ _ _ ih => exact .cons (.int _ _) ih
        exact gen _ _ i1

theorem eval_methodT {A : Around} {E : Value → Shared → Prop} {s : Shared} {env : Env} {o : Expr} {name : Str} {apos pos : Pos} {es : List Expr} {Q : Value → Shared → Prop} (hbase : attributeBase o name env (eval o env) = eval o env) (hu : es.all unstar = true) (hn : es.length < 30) (hline : (apos.endLine == pos.line) = true)
    (h : wpAny (model p w) A (eval o env) (fun ov s₁ => ∀ (pl : Sem Bool), wpAny (model p w) A (getMethod ov name pl) (fun fx s₂ => wpAny (model p w) A (callWith pos fx.1 fx.2 (backTo pos (starEach es env)) []) Q E s₂) E s₁) E s) :
    wpAny (model p w) A (eval (.Call (.Attribute o name apos) es [] pos) env) Q E s := by
  rw [arm_eval_Call, hbase]
  refine wpAny_bind (wpAny_mono h (fun ov s₁ h₁ => ?_) fun _ _ e => e)
  refine wpAny_bind (wpAny_standAt ?_)
  have hpos : methodCallPos true o env apos pos = pure pos := by unfold methodCallPos; simp [hline]
  unfold methodCall
  rw [few_trees hu hn]
  refine wpAny_bind (wpAny_holding (wpAny_mono (h₁ _) (fun fx s₂ hc => ?_) fun _ _ e => e))
  exact wpAny_bind (wpAny_of_eq hpos hc)
/-- C.f(..), f a static method -/
noncomputable def staticOk (K : Frag) (C : Addr) (x : Str) (f pp : Addr) (mc : Value) : Bool := specialIn K (.ref C) "__getattribute__" == some (some (.builtin "type.__getattribute__")) && readsIn K C mc && keepIn K (.ref f)
theorem Evs.static {ρ : List (Option V)} {cx x : Str} {np apos pos : Pos} {es : List Expr} {ds : List V} {C f pp : Addr} {mc : Value} {rest : List Value} {fr : Bool} {d : V} (t : EvL K p w n sc xs ρ es ds) (c : Ctr K p w n (.ref f) ds fr d)
    (hC : nsIn K mainGlobals cx = some (some (.ref C))) (ok : staticOk K C x f pp mc = true) (hm : findCls K (.ref C) mc x = some (.get (.builtin "staticmethod.__get__") (.ref pp) .none (.ref C))) (hp : recIn K pp "staticmethod" = some (.ref f :: rest))
    (hk : sc.names.lookup cx = some .globalImplicit := by rfl) (hu : es.all unstar = true := by rfl) (hn : es.length < 30 := by decide) (hline : (apos.endLine == pos.line) = true := by rfl) (h1 : (cx == ("__debug__" : Str)) = false := by decide +kernel) :
    Evs K p w n sc xs ρ (.Call (.Attribute (.Name cx np) x apos) es [] pos) fr d :=
  fun A E s X env Q r eo wd lv va po => by
    unfold staticOk at ok
    simp only [Bool.and_eq_true, beq_iff_eq] at ok
    obtain ⟨⟨o1, o2⟩, o3⟩ := ok
    refine eval_methodT rfl hu hn hline (eval_gname eo wd hk hC h1 fun pl => ?_)
    refine method_cls wd.k o1 (cls_bind wd.k o2 hm (wpAny_call (sm_get (s := { s with toks := s.toks + 1 }) wd.k hp (handed_on rfl ?_))))
    exact callWith_V (s := { s with toks := s.toks + 1 }) (fds := []) t (.of o3) c hu (plain_trees hu) r eo wd lv va .nil (po.after (.refl _))
end Mine

-- B20
namespace Mine
variable {K : Frag} {p : Program} {w : World} {n : Nat} {sc : Scope} {cm : Bool} {xs : List Str}

/-- T(..), T a built-in type, the raw way -/
theorem eval_btype {x : Str} {T : String} {np pos : Pos} {es : List Expr} {ds : List V} {ρ : List (Option V)} {A : Around} {E : Value → Shared → Prop} {s : Shared} {X : Addr → Prop} {env : Env} {Q : Value → Shared → Prop} (t : EvL K p w n sc xs ρ es ds) (hk : sc.names.lookup x = some .globalImplicit) (e : nsIn K mainGlobals x = some none) (hb : bootBuiltins x = some (.type T))
    (hu : es.all unstar = true) (h1 : (x == ("__debug__" : Str)) = false) (hn : x ≠ "__name__") (r : Rm n A) (eo : EnvOk sc env) (wd : Wd K s.heap) (lv : Live K X s.heap) (va : Vars sc env s.heap X xs ρ)
    (h : ∀ vs h' tk, Le X s.heap h' → RepL h' X vs ds → wpAny (model p w) A (call (.type T) vs) Q E { s with heap := h', toks := tk }) : wpAny (model p w) A (eval (.Call (.Name x np) es [] pos) env) Q E s := by
  show wpAny _ _ (do callWith pos (← eval (.Name x np) env) [] (backTo pos (starEach es env)) []) _ _ _
  have hp := plain_trees (env := env) (pos := pos) hu
  rw [Bool.or_eq_false_iff] at hp
  exact wpAny_bind (eval_bname eo wd hk e hb hn h1 (PySem.callWith_type hp.1 (evalArgs_V t hu r eo wd lv va fun vs h' tk l rp => h vs h' tk l rp)))

theorem tabs_kept {X : Addr → Prop} {h h' : Heap} {wr : List Addr} (T : Tabs X h) (k : ∀ b o, h.get? b = some o → h'.get? b = some o) (hw : ∀ b ∈ wr, h.get? b = none) : Tabs (fun a => X a ∨ a ∈ wr) h' :=
  T.imp (k _) (k _) fun b o _ e _ av => ⟨k b o e, fun z => z.elim av.1 fun z => (by rw [hw b z] at e; exact nn e), av.2⟩
theorem Src.of_walksT {A : Around} {X : Addr → Prop} {elts : List Expr} {k : Nat} {tp : Pos} {h₀ : Heap} {I : Addr} {wr fp : List Addr} {N : Nat} {St : Nat → Heap → Prop} {Pt : Nat → Array Value → Prop} {Mid : Nat → Addr → Heap → Prop} {ds : List V} (W : WalksT p w A I fp wr N Pt St Mid) (hN : ds.length = N)
    (fpOk : ∀ b ∈ fp, b ∈ wr ∨ ∃ o, Base h₀ X wr b o) (alive : ∀ i h, St i h → ∀ b ∈ wr, (h.get? b).isSome) (st : St 0 h₀) (tabs : Tabs (fun a => X a ∨ a ∈ wr) h₀)
    (rep : ∀ i vals d, Pt i vals → ds[i]? = some d → ∃ es, d = .tuple es ∧ RepL h₀ (fun a => X a ∨ a ∈ wr) vals.toList es) :
    Src K p w A true X (.Tuple elts k tp) h₀ (.ref I) wr fp St ds where
  sub := W.sub
  fpOk := fpOk
  alive := alive
  frame := W.frame
  st := st
  tabs := tabs
  item := fun i d s Z Q E hd hst hbk lz nz q => by
    refine W.item i s _ _ (by rw [← hN]; exact (List.getElem?_eq_some_iff.mp hd).1) hst fun T vals h3 tk3 pt hT hIs mid k3 => ?_
    refine W.go elts k tp i T { s with heap := h3, toks := tk3 } _ _ mid fun h4 st4 k4 => ?_
    obtain ⟨es, rfl, f⟩ := rep i vals d pt hd
    have hTw := W.apart i T h3 mid
    have avT : Av Z T := by
      refine lz.new ?_
      cases qq : s.heap.get? T with
      | none => rfl
      | some oo => exact absurd (Heap.lt_size qq) (Nat.not_lt.mpr hT)
    obtain ⟨oT, g1', g2, nT, g3⟩ := hIs
    refine q (.ref T) h4 tk3 st4 (fun b o hb e => k4 b o hb (k3 b o hb e)) (.tuple (k4 T _ hTw g1') g2 g3 avT (f.imp fun b o e av' => ?_))
    have hbase : Base h₀ X wr b o := ⟨⟨av'.2.1, av'.2.2, e⟩, fun z => av'.1 (.inl z), fun z => av'.1 (.inr z)⟩
    exact ⟨k4 b o hbase.2.2 (k3 b o hbase.2.2 (hbk b o hbase)), ⟨nz b o hbase, av'.2⟩⟩
  done := fun s Q E hst q => W.done s _ E (hN ▸ hst) q
  self := W.self

/-- for .. in enumerate(e) -/
theorem IterEv.enumerate {ρ : List (Option V)} {elts : List Expr} {k : Nat} {tp np pos : Pos} {e : Expr} {ds : List V} {fr : Bool} (h : Evs K p w n sc xs ρ e fr (.list ds)) (g1 : nsIn K mainGlobals "enumerate" = some none) (hk : sc.names.lookup ("enumerate" : Str) = some .globalImplicit := by rfl) (hu : unstar e = true := by rfl) :
    IterEv K p w n sc xs ρ true (.Tuple elts k tp) (.Call (.Name "enumerate" np) [e] [] pos) ((ds.zipIdx).map fun q => .tuple [.int q.2, q.1]) :=
  fun A E s X env Q r eo wd lv va q => by
    refine eval_btype (.cons h.weak .nil hu) hk g1 (T := "enumerate") (by kernel_rfl) (by simp [hu]) (by decide +kernel) (by decide +kernel) r eo wd lv va fun vs h' tk l rp => ?_
    cases rp using RepL.casesCons with
    | cons rv rn =>
      cases rn using RepL.casesNil
      cases rv using Rep.casesList with
      | list a b c av f =>
        rename_i ad o items m
        have il := IsList.of a b c
        have hz := f.length
        rw [Array.length_toList] at hz
        refine call_enumerate_list il fun h2 he hit hsz kk => ?_
        have lt := Heap.lt_size a
        have l2 : Le X h' h2 := .of_keep kk
        let e0 := h'.objs.size + 1
        let i0 := h'.objs.size
        have W := WalksT.enumerate (prog := p) (w := w) (A := A) r.hd e0 i0 ad (Nat.succ_ne_self _) (Nat.ne_of_lt (Nat.lt_succ_of_lt lt)) (Nat.ne_of_lt lt) items
        have st0 : (∃ old, IsEnum h2 e0 i0 ((0 : Nat) : Int) old) ∧ h2.IsListIter i0 ad 0 ∧ h2.IsList ad items := ⟨⟨_, he⟩, hit, ⟨o, kk _ _ a, b, m, c⟩⟩
        have fresh : ∀ b ∈ [e0, i0], h'.get? b = none := fun b hb => by
          have hge : h'.objs.size ≤ b := by
            simp at hb
            rcases hb with rfl | rfl
            · exact Nat.le_succ _
            · exact Nat.le_refl _
          cases q : h'.get? b with
          | none => rfl
          | some o => exact absurd (Heap.lt_size q) (Nat.not_lt.mpr hge)
        refine W.self 0 _ _ _ st0 (q _ h2 _ [e0, i0] [e0, i0, ad] (fun i h => (∃ old, IsEnum h e0 i0 (i : Int) old) ∧ h.IsListIter i0 ad i ∧ h.IsList ad items) (l.trans l2) (fun b hb => fresh_at l (fresh b hb)) (Src.of_walksT W (by simp [hz]) (fun b hb => ?_) (fun i h st b hb => ?_) st0 (tabs_kept (lv.le l).t kk fresh) fun i vals d pt hd => ?_))
        · rcases List.mem_cons.mp hb with rfl | hb
          · exact .inl (by simp)
          · rcases List.mem_cons.mp hb with rfl | hb
            · exact .inl (by simp)
            · simp at hb; subst hb
              refine .inr ⟨o, ⟨av.2.1, av.2.2, kk _ _ a⟩, av.1, fun z => ?_⟩
              have := fresh _ z; rw [a] at this; exact nn this.symm
        · obtain ⟨⟨old, e1⟩, ⟨_, e2, _⟩, _⟩ := st
          simp at hb
          rcases hb with rfl | rfl
          · rw [show h.get? e0 = _ from e1]; rfl
          · rw [e2]; rfl
        · obtain ⟨t, x, ex, rfl⟩ := pt
          rw [List.getElem?_map, Option.map_eq_some_iff] at hd
          obtain ⟨⟨d', j⟩, e1, rfl⟩ := hd
          rw [List.getElem?_zipIdx, Option.map_eq_some_iff] at e1
          obtain ⟨d2, e3, e4⟩ := e1
          simp at e4
          obtain ⟨rfl, rfl⟩ := e4
          obtain ⟨d3, f1, f2⟩ := f.get' i x (by simpa using ex)
          rw [e3] at f1; cases f1
          exact ⟨_, rfl, .cons (.int _ _) (.cons ((f2.fresh (Z := fun a => a ∈ [e0, i0]) fresh).leZ l2) .nil)⟩
/-- for .. in zip(e, f) -/
theorem IterEv.zip {ρ : List (Option V)} {elts : List Expr} {k : Nat} {tp np pos : Pos} {e f : Expr} {ds es : List V} {fr fr2 : Bool} (h : Evs K p w n sc xs ρ e fr (.list ds)) (h2 : Evs K p w n sc xs ρ f fr2 (.list es)) (g1 : nsIn K mainGlobals "zip" = some none) (hk : sc.names.lookup ("zip" : Str) = some .globalImplicit := by rfl) (hu : unstar e = true := by rfl) (hu2 : unstar f = true := by rfl) :
    IterEv K p w n sc xs ρ true (.Tuple elts k tp) (.Call (.Name "zip" np) [e, f] [] pos) ((ds.zip es).map fun q => .tuple [q.1, q.2]) :=
  fun A E s X env Q r eo wd lv va q => by
    refine eval_btype (.cons h.weak (.cons h2.weak .nil hu2) hu) hk g1 (T := "zip") (by kernel_rfl) (by simp [hu, hu2]) (by decide +kernel) (by decide +kernel) r eo wd lv va fun vs h' tk l rp => ?_
    cases rp using RepL.casesCons with
    | cons rv rn =>
      cases rn using RepL.casesCons with
      | cons rv2 rn =>
        cases rn using RepL.casesNil
        cases rv using Rep.casesList with
        | list a b c av f =>
          cases rv2 using Rep.casesList with
          | list a2 b2 c2 av2 f2 =>
            rename_i l1 o1 xs1 m1 l2 o2 ys2 m2
            have il := IsList.of a b c
            have il2 := IsList.of a2 b2 c2
            have hz := f.length
            have hz2 := f2.length
            rw [Array.length_toList] at hz hz2
            refine call_zip_2 il il2 fun h3 hzip hTI hTO hi1 hi2 hsz kk => ?_
            have lt1 := Heap.lt_size a
            have lt2 := Heap.lt_size a2
            have l3 : Le X h' h3 := .of_keep kk
            let N := h'.objs.size
            have ne : ∀ (a b : Nat), a ≠ b → N + a ≠ N + b := fun a b h e => h (Nat.add_left_cancel e)
            have nl : ∀ (l : Addr), l < h'.objs.size → ∀ a, l ≠ N + a := fun l hl a => Nat.ne_of_lt (Nat.lt_of_lt_of_le hl (Nat.le_add_right _ _))
            have D : ZipApart (N + 4) (N + 2) (N + 3) N (N + 1) l1 l2 := ⟨ne 2 4 (by decide), ne 3 4 (by decide), ne 0 4 (by decide), ne 1 4 (by decide), ne 2 3 (by decide), ne 2 0 (by decide), ne 2 1 (by decide), ne 3 0 (by decide), ne 3 1 (by decide), ne 0 1 (by decide), nl l1 lt1 4, nl l1 lt1 3, nl l1 lt1 0, nl l1 lt1 1, nl l2 lt2 4, nl l2 lt2 3, nl l2 lt2 0, nl l2 lt2 1⟩
            have W := WalksT.zip2 (prog := p) (w := w) (A := A) r.hd (N + 4) (N + 2) (N + 3) N (N + 1) l1 l2 D xs1 ys2
            have hl1 : h3.IsList l1 xs1 := ⟨o1, kk _ _ a, b, m1, c⟩
            have hl2 : h3.IsList l2 ys2 := ⟨o2, kk _ _ a2, b2, m2, c2⟩
            have ge : ∀ a : Nat, h'.get? (N + a) = none := fun a => by
              cases q : h'.get? (N + a) with
              | none => rfl
              | some o => exact absurd (Heap.lt_size q) (Nat.not_lt.mpr (Nat.le_add_right _ _))
            have fresh : ∀ b ∈ [N + 4, N + 3, N, N + 1], h'.get? b = none := fun b hb => by
              simp at hb
              rcases hb with rfl | rfl | rfl | rfl
              · exact ge 4
              · exact ge 3
              · exact ge 0
              · exact ge 1
            refine W.self 0 _ _ _ ⟨hzip, hTI, ⟨_, _, hTO⟩, hi1, hi2, hl1, hl2⟩ (q _ h3 _ [N + 4, N + 3, N, N + 1] [N + 4, N + 2, N + 3, N, N + 1, l1, l2] (fun i h => IsZip h (N + 4) (N + 2) (N + 3) .none ∧ IsPair h (N + 2) (.ref N) (.ref (N + 1)) ∧ (∃ a b, IsPair h (N + 3) a b) ∧ h.IsListIter N l1 i ∧ h.IsListIter (N + 1) l2 i ∧ h.IsList l1 xs1 ∧ h.IsList l2 ys2) (l.trans l3) (fun b hb => fresh_at l (fresh b hb)) (Src.of_walksT W (by simp [hz, hz2]) (fun b hb => ?_) (fun i h st b hb => ?_) ⟨hzip, hTI, ⟨_, _, hTO⟩, hi1, hi2, hl1, hl2⟩ (tabs_kept (lv.le l).t kk fresh) fun i vals d pt hd => ?_))
            · simp at hb
              rcases hb with rfl | rfl | rfl | rfl | rfl | rfl | rfl
              · exact .inl (by simp)
              · have av3 : Av X (N + 2) := (lv.le l).new (ge 2)
                refine .inr ⟨_, ⟨av3.2.1, av3.2.2, hTI⟩, av3.1, ?_⟩
                simp
              · exact .inl (by simp)
              · exact .inl (by simp)
              · exact .inl (by simp)
              · exact .inr ⟨o1, ⟨av.2.1, av.2.2, kk _ _ a⟩, av.1, fun z => by have := fresh _ z; rw [a] at this; exact nn this.symm⟩
              · exact .inr ⟨o2, ⟨av2.2.1, av2.2.2, kk _ _ a2⟩, av2.1, fun z => by have := fresh _ z; rw [a2] at this; exact nn this.symm⟩
            · obtain ⟨s1, s2, ⟨_, _, s3⟩, ⟨_, s4, _⟩, ⟨_, s5, _⟩, _⟩ := st
              simp at hb
              rcases hb with rfl | rfl | rfl | rfl
              · rw [show h.get? (N + 4) = _ from s1]; rfl
              · rw [show h.get? (N + 3) = _ from s3]; rfl
              · rw [s4]; rfl
              · rw [s5]; rfl
            · obtain ⟨x, y, ex, ey, rfl⟩ := pt
              rw [List.getElem?_map, Option.map_eq_some_iff] at hd
              obtain ⟨⟨d1, d2⟩, e1, rfl⟩ := hd
              rw [List.getElem?_zip_eq_some] at e1
              obtain ⟨d3, g1, g2⟩ := f.get' i x (by simpa using ex)
              obtain ⟨d4, g3, g4⟩ := f2.get' i y (by simpa using ey)
              rw [e1.1] at g1; cases g1
              rw [e1.2] at g3; cases g3
              exact ⟨_, rfl, .cons ((g2.fresh (Z := fun a => a ∈ [N + 4, N + 3, N, N + 1]) fresh).leZ l3) (.cons ((g4.fresh (Z := fun a => a ∈ [N + 4, N + 3, N, N + 1]) fresh).leZ l3) .nil)⟩
end Mine

-- B21
namespace Mine
variable {K : Frag} {p : Program} {w : World} {n : Nat} {sc : Scope} {cm : Bool} {xs : List Str} {ρ : List Ent}

theorem pairs_conv {p p' : Program} {w w' : World} {es : List DictEntry} {kvs : List (Int × Value)} (h : Pairs (intKind p w) es kvs) : Pairs (intKind p' w') es kvs := by
  induction h with
  | nil => exact .nil
  | cons a b _ ih => exact .cons a b ih
theorem IntDict.of {o : Obj} {kvs : List (Int × Value)} (h : o.IsDictOf (intKind p w) kvs) : IntDict o (kvs.map (·.1)) := by
  obtain ⟨es, ep, e1, e2, e3, e4, e5⟩ := h
  exact ⟨⟨e1.1, es, ep, e2⟩, fun p' w' => ⟨kvs, ⟨es, ep, e1, e2, e3, pairs_conv e4, e5⟩, rfl⟩⟩
noncomputable def addKey (ks : List Int) (k : Int) : List Int := if ks.any (fun x => x == k) then ks else ks ++ [k]
theorem stored_keys (kvs : List (Int × Value)) (k : Int) (v : Value) : (stored kvs k v).map (·.1) = addKey (kvs.map (·.1)) k := by
  unfold stored addKey
  have e : (kvs.map (·.1)).any (fun x => x == k) = kvs.any (fun kv => decide (kv.1 = k)) := by
    rw [List.any_map]; rfl
  rw [e]
  split
  · rw [List.map_map]
    refine List.map_congr_left fun q _ => ?_
    simp only [Function.comp]
    split <;> rfl
  · simp

/-- {a: 1, b: 1} -/
theorem Rhs.dict2 {a b : Int} {k1 k2 k3 k4 : Nat} {p1 p2 p3 p4 pos : Pos} {c d : Int} (hab : a ≠ b) : Rhs K p w n sc cm xs ρ (.Dict [some (.Constant (.int a) k1 p1), some (.Constant (.int b) k2 p2)] [.Constant (.int c) k3 p3, .Constant (.int d) k4 p4] pos) true (.idict [a, b]) :=
  fun A E s KP Y env sl ρt oa Q r eo kp nm pre S q => by
    refine wpAny_Dict_walk (knd := intKind p w) rfl rfl (by simp) (by simp) (pairTrees_cons_walk (wpAny_Constant_int (wpAny_Constant_int (pairTrees_cons_walk (wpAny_Constant_int (wpAny_Constant_int (pairTrees_nil_walk ?_)))))))
    refine display_done_int (by rfl) ?_ ?_ fun h' hd sb => ?_
    · show [a, b].Nodup
      simpa using hab
    · exact ⟨_, #[], 0, Heap.get?_push_size _ rfl, ⟨rfl, rfl, rfl⟩, rfl, fun e he => by simp at he, .nil, by simp⟩
    · obtain ⟨o, g, ho⟩ := Heap.dictOf_iff.mp hd
      have nw := get?_size s.heap
      have kk : ∀ b o, s.heap.get? b = some o → h'.get? b = some o := fun b o e => (sb.2 b (fun z => by rw [z, nw] at e; exact nn e)).trans (Heap.get?_push_of_some _ e)
      have hid := IntDict.of ho
      refine q (.ref s.heap.objs.size) _ h' _ (.of_keep kk) (S.addOwn kp eo (.of_keep kk) nw (.idict g hid ?_))
      obtain ⟨o5, e5⟩ := Option.isSome_iff_exists.mp S.live.1
      have l5 := Heap.lt_size e5
      rw [beq_eq_false_iff_ne]
      have : sysModules = 1 := rfl
      rw [this]
      exact Nat.ne_of_gt (Nat.lt_trans (by decide) l5)

/-- x[e] = 1 of a dict with int keys -/
theorem Tr1.setDict {x : Str} {np tp pos vp : Pos} {e : Expr} {ks : List Int} {k : Int} {c : Int} {i kk : Nat} {Ψ : PostR} (h : Evs K p w n sc xs (hid ρ) e false (.int k)) (hi : xs[i]? = some x) (hd : ρ[i]? = some (some (true, .idict ks))) (hz : ks.length < 1000)
    (h1 : (x == ("__debug__" : Str)) = false := by decide +kernel) (h2 : (x == ("__classdict__" : Str)) = false := by decide +kernel) :
    Tr1 K p w n sc cm xs ρ (.Assign [.Subscript (.Name x np) e tp] (.Constant (.int c) kk vp) pos) (· = ρ.set i (some (true, .idict (addKey ks k)))) Ψ :=
  fun A E s KP Y env oa Q r eo kp S qn qr => by
    refine wpAny_Assign_Subscript (wpAny_Constant_int ?_) (swaps_no rfl)
    obtain ⟨v, hh, ow⟩ := S.own i _ _ (nmOk i x hi) hd
    refine wpAny_Name (Holds.load (s := { s with toks := s.toks + 1 }) eo hh h2 ?_) h1
    refine h A E { s with toks := s.toks + 1 } _ env _ r eo S.world S.liveX (S.hid' nmOk preRefl) fun iv h' tk l ri _ => ?_
    cases ri using Rep.casesInt
    have S' := S.le kp eo l
    obtain ⟨v', hh', ow'⟩ := S'.own i _ _ (nmOk i x hi) hd
    cases (hh.keep eo l).det hh'
    generalize ha : oa i = a at ow ow'
    cases ow' with
    | idict g a2 a3 =>
      rename_i o
      obtain ⟨kvs, hk, hks⟩ := a2.2 p w
      have hsz : kvs.length ≤ sizeLine := by
        have : kvs.length = ks.length := by rw [← hks, List.length_map]
        rw [this, sizeLine_eq]; omega
      refine wpAny_setItem_pairs (s := { s with heap := h', toks := tk }) (knd := intKind p w) (hsz := hsz) (intKind_is p w k _) (Heap.dictOf_iff.mpr ⟨_, g, hk⟩) fun h2 hm sb => ?_
      obtain ⟨o2, g2, ho2⟩ := Heap.dictOf_iff.mp hm
      have hid2 := IntDict.of ho2
      rw [stored_keys, hks] at hid2
      refine qn _ oa h2 _ rfl (S'.mutate (d' := .idict (addKey ks k)) hd (ha.symm ▸ sb) (fun z u z1 z2 o => ?_) (by rw [ha, g2]; rfl))
      rw [ha] at o ⊢
      cases o with
      | idict b1 b2 b3 => exact .idict g2 hid2 b3
end Mine

-- B22
namespace Mine
variable {K : Frag} {p : Program} {w : World} {n : Nat} {sc : Scope} {cm : Bool} {xs : List Str}

theorem TabL.triples {X : Addr → Prop} {h : Heap} {q : Str} {l : List Value} (r : TabL X h q l) : TriplesOk l := by
  induction r with
  | nil => exact trivial
  | cons _ _ _ _ _ ih => exact ih
theorem TabL.among {X : Addr → Prop} {h : Heap} {q : Str} {pos : Pos} {cv : Value} {l : List Value} (r : TabL X h q l) : codeAmong pos l = some cv → ∃ c o vs tq, cv = .ref c ∧ h.get? c = some o ∧ o.data = .fields vs ∧ vs[1]? = some (.str q tq) ∧ Av X c := by
  induction r with
  | nil => exact fun e => (Option.some_ne_none _ e.symm).elim
  | cons a b c d _ ih =>
    intro e
    rw [codeAmong] at e
    split at e
    · exact ⟨_, _, _, _, (Option.some.inj e).symm, a, b, c, d⟩
    · exact ih e
theorem TabL.snoc {X : Addr → Prop} {h : Heap} {q : Str} {i j : Int} {t u tq : Tok} {c : Addr} {o : Obj} {vs : Array Value} (a : h.get? c = some o) (b : o.data = .fields vs) (d : vs[1]? = some (.str q tq)) (e : Av X c) {l : List Value} (r : TabL X h q l) : TabL X h q (l ++ [.int i t, .int j u, .ref c]) := by
  induction r with
  | nil => exact .cons a b d e .nil
  | cons a' b' d' e' _ ih => exact .cons a' b' d' e' ih

theorem lam_core {A : Around} {E : Value → Shared → Prop} {s : Shared} {X : Addr → Prop} {env : Env} {Q : Value → Shared → Prop} {params : Arguments} {body : Expr} {scope : Scope} {pos : Pos} {clos : List (Str × Addr)} {caps : List (Str × V)} {c P : Addr} {q : Str} {ps : Array Value}
    (wd : Wd K s.heap) (lv : Live K X s.heap) (eo : EnvOk sc env) (hcl : closureFor scope env = pure clos) (rc : RepC s.heap X clos caps) (hcode : env.code = .ref c) (C : CodeHd s.heap c P)
    (hb : ∀ mg, s.heap.Ns mainGlobals mg → s.heap.BuiltinsAt mg P) (hP : P = 365 ∨ P = 360) (gP : s.heap.get? P = some (tabObj ps)) (tl : TabL X s.heap q ps.toList)
    (upd : ∀ (h' : Heap) (ps' : Array Value), h'.get? P = some (tabObj ps') → TabL X h' q ps'.toList → (∀ b o, b ≠ P → s.heap.get? b = some o → h'.get? b = some o) → Tabs X h')
    (po : ∀ v h' tk, Le X s.heap h' → Rep h' X v (.lam ⟨params, body, scope, q⟩ caps) → Q v { s with heap := h', toks := tk }) :
    wpAny (model p w) A (makeFunction "<lambda>" q params (.expr body) scope env [] [] [] pos pos.line) Q E s := by
  obtain ⟨mg, hg⟩ := wd.g
  have hgP : mainGlobals ≠ P := by rcases hP with rfl | rfl <;> decide
  have fin : ∀ (h₁ : Heap) (tk : Nat) (c' : Addr) (ctv pm : Value) (oc : Obj) (cvs : Array Value) (tq : Tok) (ps' : Array Value), (∀ b o, b ≠ P → s.heap.get? b = some o → h₁.get? b = some o) → s.heap.objs.size ≤ h₁.objs.size → h₁.get? c' = some oc → oc.data = .fields cvs → cvs[1]? = some (.str q tq) → Av X c' → h₁.get? P = some (tabObj ps') → TabL X h₁ q ps'.toList →
      Q (.ref h₁.objs.size) { s with heap := h₁.push (kla_obj "<lambda>" q params body scope clos pm c' ctv), toks := tk } := fun h₁ tk c' ctv pm oc cvs tq ps' k sz g1 g2 g3 av g4 tl' => by
    have kk : ∀ b o, b ≠ P → s.heap.get? b = some o → (h₁.push (kla_obj "<lambda>" q params body scope clos pm c' ctv)).get? b = some o := fun b o n e => Heap.get?_push_of_some _ (k b o n e)
    have nP : ∀ b, b ≠ 365 → b ≠ 360 → b ≠ P := fun b n1 n2 => by rcases hP with rfl | rfl <;> assumption
    have hnew : s.heap.get? h₁.objs.size = none := by
      cases e : s.heap.get? h₁.objs.size with
      | none => rfl
      | some o => exact absurd (Heap.lt_size e) (Nat.not_lt.mpr sz)
    refine po _ _ tk ⟨fun b o n1 n2 e => kk b o (nP b n1 n2) e, fun b e => ?_, fun _ => ?_⟩ ?_
    · by_cases hb : b = P
      · rw [hb, Heap.get?_push_of_some _ g4]; rfl
      · obtain ⟨o, e1⟩ := Option.isSome_iff_exists.mp e
        rw [kk b o hb e1]; rfl
    · exact upd _ ps' (Heap.get?_push_of_some _ g4) (tl'.imp fun b o _ e _ av => ⟨Heap.get?_push_of_some _ e, av⟩) kk
    · refine .lam (c := c') (oc := oc) (cvs := cvs) (ct := tq) (Heap.get?_push_size _ rfl) rfl (lv.new hnew) rfl rfl rfl rfl rfl rfl rfl rfl rfl (Heap.get?_push_of_some _ g1) g2 g3 av ?_
      exact rc.imp fun b o e av => ⟨kk b o (nP b av.2.1 av.2.2) e, av⟩
  cases hca : codeAmong pos ps.toList with
  | none =>
    refine kla_makeFunction hcl eo.gl hg hcode C gP tl.triples hca hgP (hb mg hg) fun c' ctv h' tk hx hge hlt hrec htb => ?_
    obtain ⟨c2, oc, cvs, tq, e, g1, g2, g3⟩ := hrec
    cases e
    have hnew : s.heap.get? c' = none := by
      cases e : s.heap.get? c' with
      | none => rfl
      | some o => exact absurd (Heap.lt_size e) (Nat.not_lt.mpr hge)
    refine fin h' tk c' ctv _ oc cvs tq _ (fun b o n e => hx b o n e) (Nat.le_trans hge (Nat.le_of_lt hlt)) g1 g2 g3 (lv.new hnew) htb ?_
    rw [Array.toList_append]
    refine TabL.snoc g1 g2 g3 (lv.new hnew) (tl.imp fun b o _ e _ av => ⟨hx b o (fun z => ?_) e, av⟩)
    rcases hP with rfl | rfl
    · exact av.2.1 z
    · exact av.2.2 z
  | some cv =>
    obtain ⟨c', oc, cvs, tq, rfl, g1, g2, g3, av⟩ := tl.among hca
    refine kla_makeFunctionHit hcl eo.gl hg hcode C gP tl.triples hca (hb mg hg) fun ctv h' tk k sz => ?_
    exact fin h' tk c' ctv _ oc cvs tq ps (fun b o _ e => k b o e) sz (k _ _ g1) g2 g3 av (k _ _ gP) (tl.imp fun b o _ e _ av => ⟨k b o e, av⟩)

/-- what is asked of the static heap for a lambda -/
structure LamK (K : Frag) (c P : Addr) : Prop where
  hd : ∀ h, K.In h → CodeHd h c P
  bi : ∀ h mg, Wd K h → h.Ns mainGlobals mg → h.BuiltinsAt mg P

/-! the captured names, in the closure's order -/
noncomputable def capsV (ρ : List (Option V)) (xs : List Str) (ks : List Nat) : List (Str × V) := ks.map fun k => (xs.getD k "", (ρ.getD k none).getD .none)
theorem closure_rep {env : Env} {h : Heap} {X : Addr → Prop} : ∀ (names : List (Str × NameKind)) (cs : List (Str × Addr)) (ds more : List (Str × V)), RepC h X cs ds → ((names.filter fun y => y.2 == .free).map (·.1) = more.map (·.1)) → (∀ q ∈ more, ∃ c v, env.cells.lookup q.1 = some c ∧ h.IsCell c (some v) ∧ Av X c ∧ Rep h X v q.2) →
    ∃ cl, (forIn names cs fun (x : Str × NameKind) (cs : List (Str × Addr)) => (do
      let (name, kind) := x
      if kind == .free then do
        let a ← cellOf env name
        pure (ForInStep.yield ((name, a) :: cs))
      else pure (ForInStep.yield cs) : Sem (ForInStep (List (Str × Addr))))) = pure cl ∧ RepC h X cl (more.reverse ++ ds)
  | [], cs, ds, more, rc, e, _ => by
    cases more with
    | cons _ _ => cases e
    | nil => exact ⟨cs, rfl, rc⟩
  | (y, k) :: names, cs, ds, more, rc, e, hm => by
    by_cases hk : k = .free
    · subst hk
      cases more with
      | nil => simp at e
      | cons m more =>
        obtain ⟨z, d⟩ := m
        simp at e
        obtain ⟨rfl, e⟩ := e
        obtain ⟨c, v, h1, h2, h3, h4⟩ := hm (y, d) (List.mem_cons_self ..)
        obtain ⟨cl, g, q⟩ := closure_rep names ((y, c) :: cs) ((y, d) :: ds) more (.cons h2 h3 h4 rc) (by simpa using e) fun q hq => hm q (List.mem_cons_of_mem _ hq)
        refine ⟨cl, ?_, by simpa using q⟩
        rw [List.forIn_cons]
        have : cellOf env y = pure c := by unfold cellOf; rw [h1]
        simp only [this, beq_self_eq_true, if_true]
        exact g
    · have hkb : (k == NameKind.free) = false := by cases k <;> first | rfl | exact absurd rfl hk
      obtain ⟨cl, g, q⟩ := closure_rep names cs ds more rc (by simpa [hkb] using e) hm
      refine ⟨cl, ?_, q⟩
      rw [List.forIn_cons]
      simp only [hkb]
      exact g
/-- what a lambda's scope asks -/
noncomputable def lamOk (scope sc : Scope) (xs : List Str) (ks : List Nat) : Bool :=
  (scope.names.filter fun y => y.2 == .free).map (·.1) == (ks.map fun k => xs.getD k "") && ks.all (fun k => match xs[k]? with
    | some c => sc.names.lookup c == some .cell || sc.names.lookup c == some .free
    | none => false)
theorem Evs.lam {ρ : List (Option V)} {params : Arguments} {body : Expr} {scope : Scope} {pos : Pos} {c P : Addr} {pre : Str} (ks : List Nat) (LK : LamK K c P) (hc : codeOf sc = some (c, pre)) (hP : (P = 365 ∧ pre ++ "<lambda>" = qPairs) ∨ (P = 360 ∧ pre ++ "<lambda>" = qMaps))
    (kn : knownAll ρ ks = true := by rfl) (ok : lamOk scope sc xs ks = true := by rfl) (hdef : ∀ env, defaultsOf params env = ([], []) := by intro _; rfl) :
    Evs K p w n sc xs ρ (.Lambda params body scope pos) false (.lam ⟨params, body, scope, pre ++ "<lambda>"⟩ (capsV ρ xs ks).reverse) :=
  fun A E s X env Q r eo wd lv va po => by
    obtain ⟨e1, e2⟩ := eo.cq _ hc
    refine kla_eval (hdef env) ?_
    rw [e2]
    unfold lamOk at ok
    rw [Bool.and_eq_true, beq_iff_eq, List.all_eq_true] at ok
    obtain ⟨o1, o2⟩ := ok
    obtain ⟨clos, hcl, rc⟩ := closure_rep (env := env) (h := s.heap) (X := X) scope.names [] [] (capsV ρ xs ks) .nil (by rw [o1]; unfold capsV; rw [List.map_map]; rfl) fun q hq => by
      obtain ⟨k, hk, rfl⟩ := List.mem_map.mp hq
      have hs := o2 k hk
      split at hs
      · rename_i z hz
        obtain ⟨d, hd⟩ := known_get kn hk
        simp only [Bool.or_eq_true, beq_iff_eq] at hs
        rcases va k z d hz hd with ⟨a, _⟩ | ⟨a, c, v, e, n1, n2, i, r, cv⟩
        · rw [a] at hs; rcases hs with hs | hs <;> cases hs
        · refine ⟨c, v, ?_, i, ⟨cv (by rw [hc]; simp), n1, n2⟩, ?_⟩
          · rw [List.getD_eq_getElem?_getD, hz]; exact e
          · have : ((ρ.getD k none).getD V.none) = d := by rw [List.getD_eq_getElem?_getD, hd]; rfl
            show Rep s.heap X v ((ρ.getD k none).getD V.none)
            rw [this]; exact r
      · exact ff hs
    rw [List.append_nil] at rc
    have hcl' : closureFor scope env = pure clos := by
      unfold closureFor
      exact (congrArg (fun (m : Sem (List (Str × Addr))) => m >>= fun cs => (pure cs : Sem (List (Str × Addr))) >>= fun r => pure r) hcl).trans rfl
    obtain ⟨⟨ps, g5, t5⟩, ⟨ps0, g0, t0⟩⟩ := lv.t
    rcases hP with ⟨rfl, hq⟩ | ⟨rfl, hq⟩
    · rw [hq] at po ⊢
      refine lam_core wd lv eo hcl' rc e1 (LK.hd _ wd.k) (fun mg hg => LK.bi _ mg wd hg) (.inl rfl) g5 t5 (fun h' ps' gp tl k => ⟨⟨ps', gp, tl⟩, ⟨ps0, k _ _ (by decide) g0, t0.imp fun b o _ e _ av => ⟨k b o av.2.1 e, av⟩⟩⟩) fun v h' tk l rp => po v h' tk l rp ff
    · rw [hq] at po ⊢
      refine lam_core wd lv eo hcl' rc e1 (LK.hd _ wd.k) (fun mg hg => LK.bi _ mg wd hg) (.inr rfl) g0 t0 (fun h' ps' gp tl k => ⟨⟨ps, k _ _ (by decide) g5, t5.imp fun b o _ e _ av => ⟨k b o av.2.2 e, av⟩⟩, ⟨ps', gp, tl⟩⟩) fun v h' tk l rp => po v h' tk l rp ff

/-- what a lambda answers -/
noncomputable def LamC (K : Frag) (p : Program) (w : World) (n : Nat) (L : LamObj) (caps : List (Str × V)) (args : List V) (fr : Bool) (d : V) : Prop :=
  ∀ (A : Around) (E : Value → Shared → Prop) (s : Shared) (X : Addr → Prop) (f : Value) (vs : List Value) (Q : Value → Shared → Prop),
    Rm n A → Wd K s.heap → Live K X s.heap → Rep s.heap X f (.lam L caps) → RepL s.heap X vs args → Post s X fr d Q → wpAny (model p w) A (call f vs) Q E s
theorem RepC.get {h : Heap} {X : Addr → Prop} {z : Str} {d : V} {cs : List (Str × Addr)} : ∀ {fs : List (Str × V)}, RepC h X cs fs → (fs.map (·.1)).Nodup → (z, d) ∈ fs → ∃ c v, cs.lookup z = some c ∧ h.IsCell c (some v) ∧ Av X c ∧ Rep h X v d := by
  induction cs with
  | nil => intro fs r _ e; cases r; cases e
  | cons x cs ih =>
    intro fs r nd e
    cases r with
    | cons a b r q =>
      rw [List.map_cons, List.nodup_cons] at nd
      rcases List.mem_cons.mp e with e | e
      · cases e
        exact ⟨_, _, lk_hit, a, b, r⟩
      · obtain ⟨c', v', h1, h2⟩ := ih q nd.2 e
        exact ⟨c', v', (lk_skip fun q => nd.1 (List.mem_map.mpr ⟨_, e, q.symm⟩)).trans h1, h2⟩
theorem lamC_of {L : LamObj} {caps : List (Str × V)} {ps : List Str} {args : List V} {fr : Bool} {d : V} (h : Evs K p w n L.scope (ps ++ caps.map (·.1)) (args.map some ++ caps.map (fun q => some q.2)) L.body fr d) (hl : args.length = ps.length)
    (hbind : ∀ fd : FuncData, fd.params = L.params → fd.defaults = .none → fd.kwdefaults = .none → ∀ vs : List Value, vs.length = ps.length → bindArgs fd ⟨vs, []⟩ = pure (ps.zip vs))
    (np : ps.Nodup) (nc : (caps.map (·.1)).Nodup) (hp : ∀ x ∈ ps, L.scope.names.lookup x = some .local) (hf : ∀ q ∈ caps, L.scope.names.lookup q.1 = some .free) (hcell : ∀ y ∈ L.scope.names, y.2 ≠ .cell) (hcq : codeOf L.scope = none := by rfl)
    (kd : L.scope.kind = .function := by rfl) (co : L.scope.isCoroutine = false := by rfl) (ge : L.scope.isGenerator = false := by rfl) : LamC K p w (n + 1) L caps args fr d :=
  fun A E s X f vs Q r wd lv rf rp po => by
    cases rf using Rep.casesLam with
    | lam g1 g2 av f1 f2 f3 f4 f5 f6 f7 f8 f9 k1 k2 k3 av2 rc =>
      rename_i a c o oc fd cvs ct
      have hvl : vs.length = ps.length := rp.length.trans hl
      have nps : ((ps.zip vs).map (·.1)).Nodup := by rw [List.map_fst_zip (by omega)]; exact np
      refine wpAny_call (kla_callFunE r.room g1 g2 (by rw [f3]; exact co) (by rw [f3]; exact ge) f2 ⟨c, oc, cvs, ct, f9, k1, k2, by rw [f4]; exact k3⟩ ?_)
      rw [hbind fd f1 f7 f8 vs hvl]
      refine wpAny_pure (wpAny_newFunctionEnv (by rw [f3]; exact hcell) (fun x hx => ?_) (fun h₁ hns hsb => ⟨wd.lim.fresh _ hsb, ?_⟩) (by rw [f3]; exact kd))
      · obtain ⟨a, b⟩ := x
        rw [f3]; exact hp a (List.of_mem_zip hx).1
      · have nw := get?_size s.heap
        have kk : ∀ b o, s.heap.get? b = some o → h₁.get? b = some o := fun b o e => hsb.extBut b o (Nat.ne_of_lt (Heap.lt_size e)) (Heap.get?_push_of_some _ e)
        have l₁ : Le X s.heap h₁ := .of_keep kk
        have av0 := lv.new nw
        refine kla_codeExpr (h _ _ { s with heap := h₁, toks := s.toks + (ps.zip vs).length } X _ _ r.deeper ⟨f3, f5, f6, kd, av0.2.1, av0.2.2, fun q z => by rw [hcq] at z; exact nn z⟩ (wd.le l₁) (lv.le l₁) (fun i x d e1 e2 => ?_) fun v h' tk l rv fv => ?_)
        · rw [List.getElem?_append] at e1
          split at e1
          · rename_i hlt
            rw [List.getElem?_append_left (by rw [List.length_map, hl]; exact hlt), List.getElem?_map, Option.map_eq_some_iff] at e2
            obtain ⟨d', e3, e4⟩ := e2
            cases e4
            obtain ⟨v, e5, rv⟩ := rp.get i _ e3
            have hm : (x, v) ∈ ps.zip vs := by
              refine List.mem_of_getElem? (i := i) ?_
              rw [List.getElem?_zip_eq_some]
              exact ⟨e1, e5⟩
            exact .inl ⟨hp x (List.mem_of_getElem? e1), _, v, hns, reverse_lookup nps hm, rv.le l₁⟩
          · rename_i hlt
            rw [List.getElem?_append_right (by rw [List.length_map, hl]; omega), List.length_map, hl] at e2
            rw [List.getElem?_map, Option.map_eq_some_iff] at e1 e2
            obtain ⟨q, e3, rfl⟩ := e1
            obtain ⟨q', e4, e5⟩ := e2
            rw [e3] at e4; cases e4; cases e5
            have hm := List.mem_of_getElem? e3
            obtain ⟨c', v, j1, ⟨oo, j2, j3⟩, j4, j5⟩ := rc.get nc hm
            exact .inr ⟨.inr (hf _ hm), c', v, j1, j4.2.1, j4.2.2, ⟨oo, kk _ _ j2, j3⟩, j5.le l₁, fun q => (q hcq).elim⟩
        · exact po v h' tk (l₁.trans l) rv fun e => (fv e).imp fun b o q => ⟨q.1, q.2.1, l₁.keep _ _ q.1 q.2.1 q.2.2⟩
/-- x(..), x a name that holds a lambda -/
theorem Evs.callLam {ρ : List (Option V)} {x : Str} {np pos : Pos} {es : List Expr} {ds : List V} {L : LamObj} {caps : List (Str × V)} {fr : Bool} {d : V} (i : Nat) (t : EvL K p w n sc xs ρ es ds) (c : LamC K p w n L caps ds fr d) (hx : xs[i]? = some x) (hd : ρ[i]? = some (some (.lam L caps)))
    (hu : es.all unstar = true := by rfl) (h1 : (x == ("__debug__" : Str)) = false := by decide +kernel) (h2 : (x == ("__classdict__" : Str)) = false := by decide +kernel) : Evs K p w n sc xs ρ (.Call (.Name x np) es [] pos) fr d :=
  fun A E s X env Q r eo wd lv va po => by
    show wpAny _ _ (do callWith pos (← eval (.Name x np) env) [] (backTo pos (starEach es env)) []) _ _ _
    refine wpAny_bind (wpAny_Name (VarAt.load eo (va i x _ hx hd) h2 fun f rf => ?_) h1)
    have rf0 := rf
    cases rf using Rep.casesLam with
    | lam g1 g2 av f1 f2 f3 f4 f5 f6 f7 f8 f9 k1 k2 k3 av2 rc =>
      refine Calls.callWith_function (evalArgs_V t hu r eo wd lv va fun vs h' tk l rp => ⟨⟨l.keep _ _ av.2.1 av.2.2 g1, g2⟩, ?_⟩)
      exact c A E { s with heap := h', toks := tk } X _ vs Q r (wd.le l) (lv.le l) (rf0.le l) rp (po.after l)
end Mine

-- Q0
namespace Mine
noncomputable abbrev KK (w : World) : Frag := hK w.params
noncomputable def fdAt (K : Frag) (a : Addr) : FuncData := match K.lookup a with
  | some ⟨_, _, .func fd, _⟩ => fd
  | _ => default
variable {w : World}
theorem bind1 {fd : FuncData} {x : Str} (h : ∀ a, bindArgs fd ⟨[a], []⟩ = pure [(x, a)]) (vs : List Value) (e : vs.length = [x].length) : bindArgs fd ⟨vs, []⟩ = pure ([x].zip vs) :=
  match vs, e with
  | [a], _ => h a
theorem bind2 {fd : FuncData} {x y : Str} (h : ∀ a b, bindArgs fd ⟨[a, b], []⟩ = pure [(x, a), (y, b)]) (vs : List Value) (e : vs.length = [x, y].length) : bindArgs fd ⟨vs, []⟩ = pure ([x, y].zip vs) :=
  match vs, e with
  | [a, b], _ => h a b
theorem bind3 {fd : FuncData} {x y z : Str} (h : ∀ a b c, bindArgs fd ⟨[a, b, c], []⟩ = pure [(x, a), (y, b), (z, c)]) (vs : List Value) (e : vs.length = [x, y, z].length) : bindArgs fd ⟨vs, []⟩ = pure ([x, y, z].zip vs) :=
  match vs, e with
  | [a, b, c], _ => h a b c
theorem bind0 {fd : FuncData} (h : bindArgs fd ⟨[], []⟩ = pure []) (vs : List Value) (e : vs.length = ([] : List Str).length) : bindArgs fd ⟨vs, []⟩ = pure (([] : List Str).zip vs) :=
  match vs, e with
  | [], _ => h
theorem noCode {sc : Scope} {P : Addr × Str → Prop} (h : codeOf sc = none) : ∀ q, codeOf sc = some q → P q := fun q e => by rw [h] at e; exact nn e
noncomputable def isFnB (K : Frag) (a : Addr) : Bool := match K.lookup a with
  | some ⟨_, _, .func _, _⟩ => true
  | _ => false
theorem lk_of {K : Frag} {a : Addr} (h : isFnB K a = true) : ∃ oc od osl, K.lookup a = some ⟨oc, od, .func (fdAt K a), osl⟩ := by
  unfold isFnB at h
  unfold fdAt
  split at h
  · rename_i e
    rw [e]
    exact ⟨_, _, _, rfl⟩
  · exact ff h
theorem yesCode {sc : Scope} {fd : FuncData} {c : Addr} {pre : Str} (h : codeOf sc = some (c, pre)) (h1 : fd.code = .ref c) (h2 : fd.qualname ++ ".<locals>." = pre) : ∀ q, codeOf sc = some q → fd.code = .ref q.1 ∧ fd.qualname ++ ".<locals>." = q.2 := fun q e => by rw [h] at e; cases e; exact ⟨h1, h2⟩
end Mine

-- Q1
namespace Mine
variable {w : World}
theorem D_place : DefOk (KK w) 28 (fdAt (KK w) 28) ["firsts", "number"] (bodyOf (topAt 3)) :=
  ⟨lk_of (by kernel_rfl), by kernel_rfl, by kernel_rfl, by kernel_rfl, by kernel_rfl, by kernel_rfl, by kernel_rfl, by kernel_rfl, by kernel_rfl, (noCode (by kernel_rfl)), bind2 (fun a b => by kernel_rfl)⟩
theorem S_place : (fdAt (KK w) 28).scope = scopeOf (topAt 3) := by kernel_rfl
theorem D_first_of : DefOk (KK w) 35 (fdAt (KK w) 35) ["pair"] (bodyOf (topAt 6)) :=
  ⟨lk_of (by kernel_rfl), by kernel_rfl, by kernel_rfl, by kernel_rfl, by kernel_rfl, by kernel_rfl, by kernel_rfl, by kernel_rfl, by kernel_rfl, (noCode (by kernel_rfl)), bind1 (fun a => by kernel_rfl)⟩
theorem S_first_of : (fdAt (KK w) 35).scope = scopeOf (topAt 6) := by kernel_rfl
theorem D_bounds : DefOk (KK w) 40 (fdAt (KK w) 40) ["ranges"] (bodyOf (topAt 7)) :=
  ⟨lk_of (by kernel_rfl), by kernel_rfl, by kernel_rfl, by kernel_rfl, by kernel_rfl, by kernel_rfl, by kernel_rfl, by kernel_rfl, by kernel_rfl, (noCode (by kernel_rfl)), bind1 (fun a => by kernel_rfl)⟩
theorem S_bounds : (fdAt (KK w) 40).scope = scopeOf (topAt 7) := by kernel_rfl
theorem D_wanted : DefOk (KK w) 47 (fdAt (KK w) 47) ["way", "is_near", "is_far"] (bodyOf (topAt 8)) :=
  ⟨lk_of (by kernel_rfl), by kernel_rfl, by kernel_rfl, by kernel_rfl, by kernel_rfl, by kernel_rfl, by kernel_rfl, by kernel_rfl, by kernel_rfl, (noCode (by kernel_rfl)), bind3 (fun a b c => by kernel_rfl)⟩
theorem S_wanted : (fdAt (KK w) 47).scope = scopeOf (topAt 8) := by kernel_rfl
theorem D_merged : DefOk (KK w) 54 (fdAt (KK w) 54) ["near", "far", "way"] (bodyOf (topAt 9)) :=
  ⟨lk_of (by kernel_rfl), by kernel_rfl, by kernel_rfl, by kernel_rfl, by kernel_rfl, by kernel_rfl, by kernel_rfl, by kernel_rfl, by kernel_rfl, (noCode (by kernel_rfl)), bind3 (fun a b c => by kernel_rfl)⟩
theorem S_merged : (fdAt (KK w) 54).scope = scopeOf (topAt 9) := by kernel_rfl
theorem D_of : DefOk (KK w) 76 (fdAt (KK w) 76) ["ranges"] (bodyOf (inCls 10 1)) :=
  ⟨lk_of (by kernel_rfl), by kernel_rfl, by kernel_rfl, by kernel_rfl, by kernel_rfl, by kernel_rfl, by kernel_rfl, by kernel_rfl, by kernel_rfl, (noCode (by kernel_rfl)), bind1 (fun a => by kernel_rfl)⟩
theorem S_of : (fdAt (KK w) 76).scope = scopeOf (inCls 10 1) := by kernel_rfl
theorem D_cranges : DefOk (KK w) 91 (fdAt (KK w) 91) ["self"] (bodyOf (inCls 10 3)) :=
  ⟨lk_of (by kernel_rfl), by kernel_rfl, by kernel_rfl, by kernel_rfl, by kernel_rfl, by kernel_rfl, by kernel_rfl, by kernel_rfl, by kernel_rfl, (noCode (by kernel_rfl)), bind1 (fun a => by kernel_rfl)⟩
theorem S_cranges : (fdAt (KK w) 91).scope = scopeOf (inCls 10 3) := by kernel_rfl
theorem D_opposite : DefOk (KK w) 126 (fdAt (KK w) 126) ["self"] (bodyOf (inCls 10 8)) :=
  ⟨lk_of (by kernel_rfl), by kernel_rfl, by kernel_rfl, by kernel_rfl, by kernel_rfl, by kernel_rfl, by kernel_rfl, by kernel_rfl, by kernel_rfl, (noCode (by kernel_rfl)), bind1 (fun a => by kernel_rfl)⟩
theorem S_opposite : (fdAt (KK w) 126).scope = scopeOf (inCls 10 8) := by kernel_rfl
theorem D_set_of : DefOk (KK w) 159 (fdAt (KK w) 159) ["codes"] (bodyOf (topAt 11)) :=
  ⟨lk_of (by kernel_rfl), by kernel_rfl, by kernel_rfl, by kernel_rfl, by kernel_rfl, by kernel_rfl, by kernel_rfl, by kernel_rfl, by kernel_rfl, (noCode (by kernel_rfl)), bind1 (fun a => by kernel_rfl)⟩
theorem S_set_of : (fdAt (KK w) 159).scope = scopeOf (topAt 11) := by kernel_rfl
theorem D_codes : DefOk (KK w) 166 (fdAt (KK w) 166) ["code_set"] (bodyOf (topAt 12)) :=
  ⟨lk_of (by kernel_rfl), by kernel_rfl, by kernel_rfl, by kernel_rfl, by kernel_rfl, by kernel_rfl, by kernel_rfl, by kernel_rfl, by kernel_rfl, (noCode (by kernel_rfl)), bind1 (fun a => by kernel_rfl)⟩
theorem S_codes : (fdAt (KK w) 166).scope = scopeOf (topAt 12) := by kernel_rfl
theorem D_apart : DefOk (KK w) 173 (fdAt (KK w) 173) ["near", "far"] (bodyOf (topAt 13)) :=
  ⟨lk_of (by kernel_rfl), by kernel_rfl, by kernel_rfl, by kernel_rfl, by kernel_rfl, by kernel_rfl, by kernel_rfl, by kernel_rfl, by kernel_rfl, (noCode (by kernel_rfl)), bind2 (fun a b => by kernel_rfl)⟩
theorem S_apart : (fdAt (KK w) 173).scope = scopeOf (topAt 13) := by kernel_rfl
theorem D_within : DefOk (KK w) 180 (fdAt (KK w) 180) ["near", "far"] (bodyOf (topAt 14)) :=
  ⟨lk_of (by kernel_rfl), by kernel_rfl, by kernel_rfl, by kernel_rfl, by kernel_rfl, by kernel_rfl, by kernel_rfl, by kernel_rfl, by kernel_rfl, (noCode (by kernel_rfl)), bind2 (fun a b => by kernel_rfl)⟩
theorem S_within : (fdAt (KK w) 180).scope = scopeOf (topAt 14) := by kernel_rfl
theorem D_meet : DefOk (KK w) 187 (fdAt (KK w) 187) ["near", "far"] (bodyOf (topAt 15)) :=
  ⟨lk_of (by kernel_rfl), by kernel_rfl, by kernel_rfl, by kernel_rfl, by kernel_rfl, by kernel_rfl, by kernel_rfl, by kernel_rfl, by kernel_rfl, (noCode (by kernel_rfl)), bind2 (fun a b => by kernel_rfl)⟩
theorem S_meet : (fdAt (KK w) 187).scope = scopeOf (topAt 15) := by kernel_rfl
theorem D_last_at : DefOk (KK w) 194 (fdAt (KK w) 194) ["code_set", "code"] (bodyOf (topAt 16)) :=
  ⟨lk_of (by kernel_rfl), by kernel_rfl, by kernel_rfl, by kernel_rfl, by kernel_rfl, by kernel_rfl, by kernel_rfl, by kernel_rfl, by kernel_rfl, (noCode (by kernel_rfl)), bind2 (fun a b => by kernel_rfl)⟩
theorem S_last_at : (fdAt (KK w) 194).scope = scopeOf (topAt 16) := by kernel_rfl
theorem D_number_of : DefOk (KK w) 201 (fdAt (KK w) 201) ["code_set", "code"] (bodyOf (topAt 17)) :=
  ⟨lk_of (by kernel_rfl), by kernel_rfl, by kernel_rfl, by kernel_rfl, by kernel_rfl, by kernel_rfl, by kernel_rfl, by kernel_rfl, by kernel_rfl, (noCode (by kernel_rfl)), bind2 (fun a b => by kernel_rfl)⟩
theorem S_number_of : (fdAt (KK w) 201).scope = scopeOf (topAt 17) := by kernel_rfl
theorem D_code_at : DefOk (KK w) 208 (fdAt (KK w) 208) ["code_set", "number"] (bodyOf (topAt 18)) :=
  ⟨lk_of (by kernel_rfl), by kernel_rfl, by kernel_rfl, by kernel_rfl, by kernel_rfl, by kernel_rfl, by kernel_rfl, by kernel_rfl, by kernel_rfl, (noCode (by kernel_rfl)), bind2 (fun a b => by kernel_rfl)⟩
theorem S_code_at : (fdAt (KK w) 208).scope = scopeOf (topAt 18) := by kernel_rfl
theorem D_are_like : DefOk (KK w) 215 (fdAt (KK w) 215) ["one", "other"] (bodyOf (topAt 19)) :=
  ⟨lk_of (by kernel_rfl), by kernel_rfl, by kernel_rfl, by kernel_rfl, by kernel_rfl, by kernel_rfl, by kernel_rfl, by kernel_rfl, by kernel_rfl, (noCode (by kernel_rfl)), bind2 (fun a b => by kernel_rfl)⟩
theorem S_are_like : (fdAt (KK w) 215).scope = scopeOf (topAt 19) := by kernel_rfl
theorem D_mranges : DefOk (KK w) 248 (fdAt (KK w) 248) ["self"] (bodyOf (inCls 20 3)) :=
  ⟨lk_of (by kernel_rfl), by kernel_rfl, by kernel_rfl, by kernel_rfl, by kernel_rfl, by kernel_rfl, by kernel_rfl, by kernel_rfl, by kernel_rfl, (noCode (by kernel_rfl)), bind1 (fun a => by kernel_rfl)⟩
theorem S_mranges : (fdAt (KK w) 248).scope = scopeOf (inCls 20 3) := by kernel_rfl
theorem D_rows : DefOk (KK w) 269 (fdAt (KK w) 269) ["range_map"] (bodyOf (topAt 21)) :=
  ⟨lk_of (by kernel_rfl), by kernel_rfl, by kernel_rfl, by kernel_rfl, by kernel_rfl, by kernel_rfl, by kernel_rfl, by kernel_rfl, by kernel_rfl, (noCode (by kernel_rfl)), bind1 (fun a => by kernel_rfl)⟩
theorem S_rows : (fdAt (KK w) 269).scope = scopeOf (topAt 21) := by kernel_rfl
theorem D_map_of : DefOk (KK w) 276 (fdAt (KK w) 276) ["rows", "default"] (bodyOf (topAt 22)) :=
  ⟨lk_of (by kernel_rfl), by kernel_rfl, by kernel_rfl, by kernel_rfl, by kernel_rfl, by kernel_rfl, by kernel_rfl, by kernel_rfl, by kernel_rfl, (noCode (by kernel_rfl)), bind2 (fun a b => by kernel_rfl)⟩
theorem S_map_of : (fdAt (KK w) 276).scope = scopeOf (topAt 22) := by kernel_rfl
theorem D_values : DefOk (KK w) 281 (fdAt (KK w) 281) ["range_map"] (bodyOf (topAt 23)) :=
  ⟨lk_of (by kernel_rfl), by kernel_rfl, by kernel_rfl, by kernel_rfl, by kernel_rfl, by kernel_rfl, by kernel_rfl, by kernel_rfl, by kernel_rfl, (noCode (by kernel_rfl)), bind1 (fun a => by kernel_rfl)⟩
theorem S_values : (fdAt (KK w) 281).scope = scopeOf (topAt 23) := by kernel_rfl
theorem D_equal : DefOk (KK w) 286 (fdAt (KK w) 286) ["near", "far"] (bodyOf (topAt 24)) :=
  ⟨lk_of (by kernel_rfl), by kernel_rfl, by kernel_rfl, by kernel_rfl, by kernel_rfl, by kernel_rfl, by kernel_rfl, by kernel_rfl, by kernel_rfl, (noCode (by kernel_rfl)), bind2 (fun a b => by kernel_rfl)⟩
theorem S_equal : (fdAt (KK w) 286).scope = scopeOf (topAt 24) := by kernel_rfl
theorem D_laid : DefOk (KK w) 293 (fdAt (KK w) 293) ["below", "above"] (bodyOf (topAt 25)) :=
  ⟨lk_of (by kernel_rfl), by kernel_rfl, by kernel_rfl, by kernel_rfl, by kernel_rfl, by kernel_rfl, by kernel_rfl, by kernel_rfl, by kernel_rfl, (noCode (by kernel_rfl)), bind2 (fun a b => by kernel_rfl)⟩
theorem S_laid : (fdAt (KK w) 293).scope = scopeOf (topAt 25) := by kernel_rfl
theorem D_paired : DefOk (KK w) 300 (fdAt (KK w) 300) ["near", "far"] (bodyOf (topAt 26)) :=
  ⟨lk_of (by kernel_rfl), by kernel_rfl, by kernel_rfl, by kernel_rfl, by kernel_rfl, by kernel_rfl, by kernel_rfl, by kernel_rfl, by kernel_rfl, (noCode (by kernel_rfl)), bind2 (fun a b => by kernel_rfl)⟩
theorem S_paired : (fdAt (KK w) 300).scope = scopeOf (topAt 26) := by kernel_rfl
theorem D_asked : DefOk (KK w) 308 (fdAt (KK w) 308) [] (bodyOf (topAt 29)) :=
  ⟨lk_of (by kernel_rfl), by kernel_rfl, by kernel_rfl, by kernel_rfl, by kernel_rfl, by kernel_rfl, by kernel_rfl, by kernel_rfl, by kernel_rfl, (noCode (by kernel_rfl)), bind0 (by kernel_rfl)⟩
theorem S_asked : (fdAt (KK w) 308).scope = scopeOf (topAt 29) := by kernel_rfl
theorem D_runs : DefOk (KK w) 315 (fdAt (KK w) 315) ["codes"] (bodyOf (topAt 30)) :=
  ⟨lk_of (by kernel_rfl), by kernel_rfl, by kernel_rfl, by kernel_rfl, by kernel_rfl, by kernel_rfl, by kernel_rfl, by kernel_rfl, by kernel_rfl, (noCode (by kernel_rfl)), bind1 (fun a => by kernel_rfl)⟩
theorem S_runs : (fdAt (KK w) 315).scope = scopeOf (topAt 30) := by kernel_rfl
theorem D_sets : DefOk (KK w) 320 (fdAt (KK w) 320) ["one", "other"] (bodyOf (topAt 31)) :=
  ⟨lk_of (by kernel_rfl), by kernel_rfl, by kernel_rfl, by kernel_rfl, by kernel_rfl, by kernel_rfl, by kernel_rfl, by kernel_rfl, by kernel_rfl, (noCode (by kernel_rfl)), bind2 (fun a b => by kernel_rfl)⟩
theorem S_sets : (fdAt (KK w) 320).scope = scopeOf (topAt 31) := by kernel_rfl
theorem D_numbers : DefOk (KK w) 325 (fdAt (KK w) 325) ["one"] (bodyOf (topAt 32)) :=
  ⟨lk_of (by kernel_rfl), by kernel_rfl, by kernel_rfl, by kernel_rfl, by kernel_rfl, by kernel_rfl, by kernel_rfl, by kernel_rfl, by kernel_rfl, (noCode (by kernel_rfl)), bind1 (fun a => by kernel_rfl)⟩
theorem S_numbers : (fdAt (KK w) 325).scope = scopeOf (topAt 32) := by kernel_rfl
theorem D_rest : DefOk (KK w) 330 (fdAt (KK w) 330) ["one"] (bodyOf (topAt 33)) :=
  ⟨lk_of (by kernel_rfl), by kernel_rfl, by kernel_rfl, by kernel_rfl, by kernel_rfl, by kernel_rfl, by kernel_rfl, by kernel_rfl, by kernel_rfl, (noCode (by kernel_rfl)), bind1 (fun a => by kernel_rfl)⟩
theorem S_rest : (fdAt (KK w) 330).scope = scopeOf (topAt 33) := by kernel_rfl
theorem D_lrows : DefOk (KK w) 337 (fdAt (KK w) 337) ["cells", "some"] (bodyOf (topAt 34)) :=
  ⟨lk_of (by kernel_rfl), by kernel_rfl, by kernel_rfl, by kernel_rfl, by kernel_rfl, by kernel_rfl, by kernel_rfl, by kernel_rfl, by kernel_rfl, (noCode (by kernel_rfl)), bind2 (fun a b => by kernel_rfl)⟩
theorem S_lrows : (fdAt (KK w) 337).scope = scopeOf (topAt 34) := by kernel_rfl
theorem D_lvalue : DefOk (KK w) 344 (fdAt (KK w) 344) ["rows", "code"] (bodyOf (topAt 35)) :=
  ⟨lk_of (by kernel_rfl), by kernel_rfl, by kernel_rfl, by kernel_rfl, by kernel_rfl, by kernel_rfl, by kernel_rfl, by kernel_rfl, by kernel_rfl, (noCode (by kernel_rfl)), bind2 (fun a b => by kernel_rfl)⟩
theorem S_lvalue : (fdAt (KK w) 344).scope = scopeOf (topAt 35) := by kernel_rfl
theorem D_tiles : DefOk (KK w) 351 (fdAt (KK w) 351) ["rows", "told"] (bodyOf (topAt 36)) :=
  ⟨lk_of (by kernel_rfl), by kernel_rfl, by kernel_rfl, by kernel_rfl, by kernel_rfl, by kernel_rfl, by kernel_rfl, by kernel_rfl, by kernel_rfl, (noCode (by kernel_rfl)), bind2 (fun a b => by kernel_rfl)⟩
theorem S_tiles : (fdAt (KK w) 351).scope = scopeOf (topAt 36) := by kernel_rfl
theorem D_llaid : DefOk (KK w) 358 (fdAt (KK w) 358) ["one", "other", "code"] (bodyOf (topAt 37)) :=
  ⟨lk_of (by kernel_rfl), by kernel_rfl, by kernel_rfl, by kernel_rfl, by kernel_rfl, by kernel_rfl, by kernel_rfl, by kernel_rfl, by kernel_rfl, (noCode (by kernel_rfl)), bind3 (fun a b c => by kernel_rfl)⟩
theorem S_llaid : (fdAt (KK w) 358).scope = scopeOf (topAt 37) := by kernel_rfl
theorem D_maps : DefOk (KK w) 363 (fdAt (KK w) 363) ["one", "other"] (bodyOf (topAt 38)) :=
  ⟨lk_of (by kernel_rfl), by kernel_rfl, by kernel_rfl, by kernel_rfl, by kernel_rfl, by kernel_rfl, by kernel_rfl, by kernel_rfl, by kernel_rfl, (yesCode (c := 362) (pre := "_law_maps_right.<locals>.") (by kernel_rfl) (by kernel_rfl) (by kernel_rfl)), bind2 (fun a b => by kernel_rfl)⟩
theorem S_maps : (fdAt (KK w) 363).scope = scopeOf (topAt 38) := by kernel_rfl
theorem D_pairs : DefOk (KK w) 370 (fdAt (KK w) 370) ["one", "other"] (bodyOf (topAt 39)) :=
  ⟨lk_of (by kernel_rfl), by kernel_rfl, by kernel_rfl, by kernel_rfl, by kernel_rfl, by kernel_rfl, by kernel_rfl, by kernel_rfl, by kernel_rfl, (yesCode (c := 369) (pre := "_law_pairs_right.<locals>.") (by kernel_rfl) (by kernel_rfl) (by kernel_rfl)), bind2 (fun a b => by kernel_rfl)⟩
theorem S_pairs : (fdAt (KK w) 370).scope = scopeOf (topAt 39) := by kernel_rfl
end Mine

-- Q2
namespace Mine
variable {K : Frag} {p : Program} {w : World} {n : Nat} {sc : Scope} {cm : Bool} {xs : List Str}

noncomputable abbrev fz (d : V) : Ent := some (false, d)
noncomputable abbrev ow (d : V) : Ent := some (true, d)
noncomputable def V.ints (l : List Int) : V := .list (l.map .int)
theorem Evs.nm {ρ : List (Option V)} {x : Str} {pos : Pos} {d : V} (i : Nat) (hx : xs[i]? = some x := by rfl) (hd : ρ[i]? = some (some d) := by rfl) (h1 : (x == ("__debug__" : Str)) = false := by rfl) (h2 : (x == ("__classdict__" : Str)) = false := by rfl) : Evs K p w n sc xs ρ (.Name x pos) false d := .name i hx hd h1 h2
theorem Tr1.set {ρ : List Ent} {x : Str} {pp pos : Pos} {e : Expr} {o : Bool} {d : V} {Ψ : PostR} (i : Nat) (h : Rhs K p w n sc cm xs ρ e o d) (hi : xs[i]? = some x := by rfl) (kd : sc.names.lookup x = some .local := by rfl) (hc : noComp e = true := by rfl) :
    Tr1 K p w n sc cm xs ρ (.Assign [.Name x pp] e pos) (· = ρ.set i (some (o, d))) Ψ := .assign h hi (.inl kd) hc
theorem Tr1.app {ρ : List Ent} {x : Str} {np apos pos spos : Pos} {e : Expr} {ds : List V} {d : V} {Ψ : PostR} (i : Nat) (h : Rhs K p w n sc cm xs ρ e false d) (hz : ds.length < 10000) (hi : xs[i]? = some x := by rfl) (hd : ρ[i]? = some (some (true, .list ds)) := by rfl)
    (hu : unstar e = true := by rfl) (hline : (apos.endLine == pos.line) = true := by rfl) (h1 : (x == ("__debug__" : Str)) = false := by rfl) (h2 : (x == ("__classdict__" : Str)) = false := by rfl) :
    Tr1 K p w n sc cm xs ρ (.Expr (.Call (.Attribute (.Name x np) "append" apos) [e] [] pos) spos) (· = ρ.set i (some (true, .list (ds ++ [d])))) Ψ := .append h hi hd (by rw [sizeLine_eq]; omega) hu hline h1 h2
theorem Tr1.ext {ρ : List Ent} {x : Str} {np apos pos spos : Pos} {e : Expr} {ds es : List V} {Ψ : PostR} (i : Nat) (h : Evs K p w n sc xs (hid ρ) e true (.list es)) (hz : ds.length + es.length < 10000) (hi : xs[i]? = some x := by rfl) (hd : ρ[i]? = some (some (true, .list ds)) := by rfl)
    (hu : unstar e = true := by rfl) (hline : (apos.endLine == pos.line) = true := by rfl) (h1 : (x == ("__debug__" : Str)) = false := by rfl) (h2 : (x == ("__classdict__" : Str)) = false := by rfl) :
    Tr1 K p w n sc cm xs ρ (.Expr (.Call (.Attribute (.Name x np) "extend" apos) [e] [] pos) spos) (· = ρ.set i (some (true, .list (ds ++ es)))) Ψ := .extend h hi hd hz hu hline h1 h2
theorem Tr1.setL {ρ : List Ent} {x : Str} {np ip tp pos pos2 : Pos} {e : Expr} {ds : List V} {d : V} {kk : Nat} {Ψ : PostR} (i : Nat) (h : Rhs K p w n sc cm xs ρ e false d) (h0 : 0 < ds.length) (hi : xs[i]? = some x := by rfl) (hd : ρ[i]? = some (some (true, .list ds)) := by rfl)
    (hc : noComp e = true := by rfl) (h1 : (x == ("__debug__" : Str)) = false := by rfl) (h2 : (x == ("__classdict__" : Str)) = false := by rfl) :
    Tr1 K p w n sc cm xs ρ (.Assign [.Subscript (.Name x np) (.UnaryOp .USub (.Constant (.int 1) kk ip) tp) pos] e pos2) (· = ρ.set i (some (true, .list (ds.set (ds.length - 1) d)))) Ψ := .setLast h hi hd h0 hc h1 h2
theorem Tr.andThen {ρ : List Ent} {st : Stmt} {ss : List Stmt} {ρ' : List Ent} {Φ : PostN} {Ψ : PostR} (h : Tr1 K p w n sc cm xs ρ st (· = ρ') Ψ) (t : Tr K p w n sc cm xs ρ' ss Φ Ψ) : Tr K p w n sc cm xs ρ (st :: ss) Φ Ψ := .step h t
theorem EvAnd.c {ρ : List (Option V)} {e : Expr} {es : List Expr} {a b : Bool} (h1 : Evt K p w n sc xs ρ e a) (h2 : a = true → EvAnd K p w n sc xs ρ es b) : EvAnd K p w n sc xs ρ (e :: es) (a && b) := by
  cases a with
  | true => exact .yes h1 (h2 rfl)
  | false => exact .no h1
theorem EvOr.c {ρ : List (Option V)} {e : Expr} {es : List Expr} {a b : Bool} (h1 : Evt K p w n sc xs ρ e a) (h2 : a = false → EvOr K p w n sc xs ρ es b) : EvOr K p w n sc xs ρ (e :: es) (a || b) := by
  cases a with
  | true => exact .yes h1
  | false => exact .no h1 (h2 rfl)
theorem Tr.ret {ρ : List Ent} {e : Expr} {fr : Bool} {d : V} {pos : Pos} {ss : List Stmt} {Φ : PostN} {Ψ : PostR} (h : Evs K p w n sc xs (shw ρ) e fr d) (q : Ψ ρ false d) : Tr K p w n sc cm xs ρ (.Return (some e) pos :: ss) Φ Ψ :=
  .cons (Φ₁ := fun _ => False) (Tr1.ret h q) fun _ h => h.elim
theorem Tr.retNew {ρ : List Ent} {e : Expr} {d : V} {pos : Pos} {ss : List Stmt} {Φ : PostN} {Ψ : PostR} (h : Evs K p w n sc xs (shw ρ) e true d) (q : Ψ ρ true d) : Tr K p w n sc cm xs ρ (.Return (some e) pos :: ss) Φ Ψ :=
  .cons (Φ₁ := fun _ => False) (Tr1.retNew h q) fun _ h => h.elim
theorem Tr.retOwn {ρ : List Ent} {x : Str} {np pos : Pos} {d : V} (i : Nat) {ss : List Stmt} {Φ : PostN} {Ψ : PostR} (q : Ψ ρ true d) (hi : xs[i]? = some x := by rfl) (hd : ρ[i]? = some (some (true, d)) := by rfl) (h1 : (x == ("__debug__" : Str)) = false := by rfl) (h2 : (x == ("__classdict__" : Str)) = false := by rfl) : Tr K p w n sc cm xs ρ (.Return (some (.Name x np)) pos :: ss) Φ Ψ :=
  .cons (Φ₁ := fun _ => False) (Tr1.retOwn hi hd q h1 h2) fun _ h => h.elim
/-- a def's contract, the body walked -/
noncomputable abbrev Body (w : World) (p : Program) (n : Nat) (i : Stmt) (cm : Bool) (xs : List Str) (args : List V) (m : Nat) (fr : Bool) (d : V) : Prop := Tr (KK w) p w n (scopeOf i) cm xs (entry args m) (bodyOf i) (fun _ => d = .none ∧ fr = false) (fun _ f e => e = d ∧ (fr = true → f = true))
theorem callG {ρ : List (Option V)} {x : Str} {np pos : Pos} {fa : Addr} {es : List Expr} {ds : List V} {fr : Bool} {d : V} (t : EvL (KK w) p w n sc xs ρ es ds) (c : Ctr (KK w) p w n (.ref fa) ds fr d) (e : nsIn (KK w) mainGlobals x = some (some (.ref fa)) := by kernel_rfl) (kf : keepIn (KK w) (.ref fa) = true := by kernel_rfl) (hk : sc.names.lookup x = some .globalImplicit := by rfl)
    (hu : es.all unstar = true := by rfl) (h1 : (x == ("__debug__" : Str)) = false := by rfl) : Evs (KK w) p w n sc xs ρ (.Call (.Name x np) es [] pos) fr d := .call t c hk e kf hu h1
theorem callB {ρ : List (Option V)} {x : Str} {np pos : Pos} {id : String} {es : List Expr} {ds : List V} {fr : Bool} {d : V} (t : EvL (KK w) p w n sc xs ρ es ds) (c : Ctr (KK w) p w n (.builtin id) ds fr d) (e : nsIn (KK w) mainGlobals x = some none := by kernel_rfl) (hb : bootBuiltins x = some (.builtin id) := by kernel_rfl) (hk : sc.names.lookup x = some .globalImplicit := by rfl)
    (hu : es.all unstar = true := by rfl) (h1 : (x == ("__debug__" : Str)) = false := by rfl) (hn : x ≠ "__name__" := by decide +kernel) : Evs (KK w) p w n sc xs ρ (.Call (.Name x np) es [] pos) fr d := .bcall t c hk e hb .builtin hu h1 hn
theorem callT {ρ : List (Option V)} {x : Str} {np pos : Pos} {id : String} {es : List Expr} {ds : List V} {fr : Bool} {d : V} (t : EvL (KK w) p w n sc xs ρ es ds) (c : Ctr (KK w) p w n (.type id) ds fr d) (e : nsIn (KK w) mainGlobals x = some none := by kernel_rfl) (hb : bootBuiltins x = some (.type id) := by kernel_rfl) (hk : sc.names.lookup x = some .globalImplicit := by rfl)
    (hu : es.all unstar = true := by rfl) (h1 : (x == ("__debug__" : Str)) = false := by rfl) (hn : x ≠ "__name__" := by decide +kernel) : Evs (KK w) p w n sc xs ρ (.Call (.Name x np) es [] pos) fr d := .bcall t c hk e hb .type hu h1 hn

noncomputable def nodupB (l : List Str) : Bool := match l with
  | [] => true
  | x :: r => !(r.any fun y => y == x) && nodupB r
theorem nodup_of : ∀ {l : List Str}, nodupB l = true → l.Nodup
  | [], _ => List.nodup_nil
  | x :: r, h => by
    rw [nodupB, Bool.and_eq_true] at h
    refine List.nodup_cons.mpr ⟨fun z => ?_, nodup_of h.2⟩
    have : (r.any fun y => y == x) = true := List.any_eq_true.mpr ⟨x, z, by simp⟩
    rw [this] at h
    cases h.1
theorem ctrB {fa : Addr} {i : Stmt} {ps : List Str} {cm : Bool} {xs : List Str} {args : List V} {fr : Bool} {d : V} (rest : List Str) (D : DefOk (KK w) fa (fdAt (KK w) fa) ps (bodyOf i)) (S : (fdAt (KK w) fa).scope = scopeOf i) (T : Body w p n i cm xs args rest.length fr d)
    (hx : xs = ps ++ rest := by rfl) (nd : nodupB xs = true := by kernel_rfl) (hl : args.length = ps.length := by rfl) (hp : (ps.all fun x => (scopeOf i).names.lookup x == some .local || (scopeOf i).names.lookup x == some .cell) = true := by kernel_rfl) (hcm : ((codeOf (scopeOf i)).isNone || !cm) = true := by kernel_rfl) : Ctr (KK w) p w (n + 1) (.ref fa) args fr d := by
  refine ctr_of_tr (cm := cm) D hx (nodup_of nd) hl (fun x h => ?_) ?_ (by rw [S]; exact T)
  · rw [S]
    have := List.all_eq_true.mp hp x h
    simpa using this
  · rw [S]
    simp only [Bool.or_eq_true, Option.isNone_iff_eq_none, Bool.not_eq_true'] at hcm
    exact hcm
/-! place_by_half -/
/-- how many are not above x -/
noncomputable def cnt (l : List Int) (x : Int) : Nat := l.countP (· ≤ x)
noncomputable def Asc (l : List Int) : Prop := l.Pairwise (· < ·)
theorem cnt_le (l : List Int) (x : Int) : cnt l x ≤ l.length := List.countP_le_length
theorem cnt_nil (x : Int) : cnt [] x = 0 := rfl
theorem cnt_cons (a : Int) (l : List Int) (x : Int) : cnt (a :: l) x = (if a ≤ x then 1 else 0) + cnt l x := by
  unfold cnt; rw [List.countP_cons]; by_cases q : a ≤ x <;> simp [q]; omega
theorem cnt_low {l : List Int} {x : Int} (h : ∀ a ∈ l, x < a) : cnt l x = 0 := by
  unfold cnt
  rw [List.countP_eq_zero]
  intro b hb
  have := h b hb
  simp; omega
theorem cnt_spec {l : List Int} (h : Asc l) (x : Int) {i : Nat} {y : Int} (e : l[i]? = some y) : y ≤ x ↔ i < cnt l x := by
  induction l generalizing i with
  | nil => simp at e
  | cons a l ih =>
    have h' := List.pairwise_cons.mp h
    rw [cnt_cons]
    cases i with
    | zero =>
      simp at e; subst e
      by_cases q : a ≤ x
      · simp [q]; omega
      · have := cnt_low (l := l) (x := x) fun b hb => by have := h'.1 b hb; omega
        simp [q, this]
    | succ i =>
      simp at e
      have := ih h'.2 e
      have hy : a < y := h'.1 y (List.mem_of_getElem? e)
      by_cases q : a ≤ x
      · rw [if_pos q]; omega
      · have z := cnt_low (l := l) (x := x) fun b hb => by have := h'.1 b hb; omega
        rw [if_neg q, z]; constructor <;> intro _ <;> omega
theorem int_get {l : List Int} {i : Nat} (h : i < l.length) : ∃ y, l[i]? = some y ∧ (l.map V.int)[i]? = some (.int y) := ⟨l[i], by simp [h], by simp [h]⟩
theorem ctr_lenI {l : List Int} (hz : l.length ≤ 10000) : Ctr K p w n (.builtin "len") [.ints l] false (.int l.length) := by
  have := ctr_len (K := K) (p := p) (w := w) (n := n) (ds := l.map V.int) (by rw [List.length_map, sizeLine_eq]; omega)
  rw [List.length_map] at this
  exact this
theorem place_tr {l : List Int} {x : Int} (ha : Asc l) (hz : l.length ≤ 1000) : Body w p n (topAt 3) true ["firsts", "number", "low", "high", "middle"] [.ints l, .int x] 3 false (.int ((cnt l x : Int) - 1)) := by
  refine .andThen (ρ' := [fz (.ints l), fz (.int x), fz (.int 0), none, none]) (.set 2 (.tup .int rfl)) ?_
  refine .andThen (ρ' := [fz (.ints l), fz (.int x), fz (.int 0), fz (.int l.length), none]) (.set 3 (.tup (callB (fr := false) (.cons (.nm 0) .nil) (ctr_lenI (by omega))) rfl)) ?_
  refine .cons (Φ₁ := fun ρ => ∃ m, ρ = [fz (.ints l), fz (.int x), fz (.int (cnt l x)), fz (.int (cnt l x)), m]) (Tr1.while (fun k ρ => ∃ (lo hi : Nat) (m : Ent), ρ = [fz (.ints l), fz (.int x), fz (.int lo), fz (.int hi), m] ∧ lo ≤ cnt l x ∧ cnt l x ≤ hi ∧ hi ≤ l.length ∧ k = hi - lo) l.length ⟨0, l.length, none, rfl, Nat.zero_le _, cnt_le l x, Nat.le_refl _, by omega⟩ ?_) ?_
  · rintro k ρ ⟨lo, hi, m, rfl, h1, h2, h3, rfl⟩
    refine ⟨_, .cmp cmp_lt (.nm 2) (.nm 3), fun h => ?_, fun h => ?_⟩
    · have h := of_decide_eq_true h
      obtain ⟨mid, hmid⟩ : ∃ mid, mid = (lo + hi) / 2 := ⟨_, rfl⟩
      have e1 : ((lo : Int) + hi).fdiv 2 = (mid : Int) := by
        rw [Int.fdiv_eq_ediv_of_nonneg _ (by omega)]; omega
      refine .andThen (ρ' := [fz (.ints l), fz (.int x), fz (.int lo), fz (.int hi), fz (.int mid)]) (.set 4 (.tup (.cast (.floordiv (.add (.nm 2) (.nm 3)) .int (by decide) (by decide)) (by rw [e1])) rfl)) ?_
      obtain ⟨y, g1, g2⟩ := int_get (l := l) (i := mid) (by omega)
      have key := cnt_spec ha x g1
      refine .cons (Tr1.ife (.cmp cmp_le (.item (.nm 0) (.nm 4) (by omega) (by omega) (by simpa using g2)) (.nm 1)) (fun q => ?_) (fun q => ?_)) (fun ρ' q => .nil q)
      · have q := key.mp (of_decide_eq_true q)
        exact .andThen (ρ' := [fz (.ints l), fz (.int x), fz (.int ((mid + 1 : Nat))), fz (.int hi), fz (.int mid)]) (.set 2 (.tup (.cast (.add (.nm 4) .int) (by simp)) rfl)) (.nil ⟨hi - (mid + 1), by omega, mid + 1, hi, _, rfl, by omega, h2, h3, rfl⟩)
      · have q : ¬ mid < cnt l x := fun z => of_decide_eq_false q (key.mpr z)
        exact .andThen (ρ' := [fz (.ints l), fz (.int x), fz (.int lo), fz (.int mid), fz (.int mid)]) (.set 3 (.tup (.nm 4) rfl)) (.nil ⟨mid - lo, by omega, lo, mid, _, rfl, h1, by omega, by omega, rfl⟩)
    · have h := of_decide_eq_false h
      exact ⟨m, by rw [show lo = cnt l x by omega, show hi = cnt l x by omega]⟩
  · rintro ρ ⟨m, rfl⟩
    exact .ret (.sub (.nm 2) .int) ⟨rfl, fun h => h⟩
theorem ctr_place {l : List Int} {x : Int} (ha : Asc l) (hz : l.length ≤ 1000) : Ctr (KK w) p w (n + 1) (.ref 28) [.ints l, .int x] false (.int ((cnt l x : Int) - 1)) :=
  ctrB ["low", "high", "middle"] D_place S_place (place_tr ha hz)
end Mine

-- Q3
namespace Mine
variable {K : Frag} {p : Program} {w : World} {n : Nat} {sc : Scope} {cm : Bool} {xs : List Str}

/-! equality of lists of like data -/
section
variable {α : Type} [DecidableEq α] {g : α → V}
theorem eqvAll_map (h : ∀ x y, (g x).eqv (g y) = decide (x = y)) : ∀ a b : List α, PyData.eqvAll (V.pys (a.map g)) (V.pys (b.map g)) = decide (a = b)
  | [], [] => rfl
  | [], _ :: _ => rfl
  | _ :: _, [] => rfl
  | x :: a, y :: b => by
    show ((g x).eqv (g y) && PyData.eqvAll (V.pys (a.map g)) (V.pys (b.map g))) = _
    rw [h, eqvAll_map h a b]
    by_cases q : x = y <;> by_cases r : a = b <;> simp [q, r]
theorem eqv_list (h : ∀ x y, (g x).eqv (g y) = decide (x = y)) (a b : List α) : (V.list (a.map g)).eqv (.list (b.map g)) = decide (a = b) := eqvAll_map h a b
theorem plains_map (h : ∀ x, (g x).plain = true) : ∀ a : List α, V.plains (a.map g) = true
  | [] => rfl
  | x :: a => by
    show ((g x).plain && V.plains (a.map g)) = true
    rw [h, plains_map h a]; rfl
theorem depth_map {B : Nat} (h : ∀ x, (g x).py.depth ≤ B) : ∀ a : List α, PyData.depthAll (V.pys (a.map g)) ≤ B
  | [] => Nat.zero_le _
  | x :: a => by
    show max _ _ ≤ B
    exact Nat.max_le.mpr ⟨h x, depth_map h a⟩
theorem cmp_eqL {B : Nat} (h : ∀ x y, (g x).eqv (g y) = decide (x = y)) (hp : ∀ x, (g x).plain = true) (hd : ∀ x, (g x).py.depth ≤ 50) (a b : List α) : CmpIs K p w n .Eq (.list (a.map g)) (.list (b.map g)) (decide (a = b)) := by
  have := cmp_eq (K := K) (p := p) (w := w) (n := n) (d := .list (a.map g)) (e := .list (b.map g)) (plains_map hp a) (plains_map hp b) (by show PyData.depthAll _ + 1 ≤ 60; have := depth_map hd a; omega)
  rw [eqv_list h] at this
  exact this
theorem cmp_neL (h : ∀ x y, (g x).eqv (g y) = decide (x = y)) (hp : ∀ x, (g x).plain = true) (hd : ∀ x, (g x).py.depth ≤ 50) (a b : List α) : CmpIs K p w n .NotEq (.list (a.map g)) (.list (b.map g)) (!decide (a = b)) := by
  have := cmp_ne (K := K) (p := p) (w := w) (n := n) (d := .list (a.map g)) (e := .list (b.map g)) (plains_map hp a) (plains_map hp b) (by show PyData.depthAll _ + 1 ≤ 60; have := depth_map hd a; omega)
  rw [eqv_list h] at this
  exact this
end
theorem eqv_int (x y : Int) : (V.int x).eqv (.int y) = decide (x = y) := by
  show (x == y) = _
  by_cases q : x = y <;> simp [q]
noncomputable def gp (q : Int × Int) : V := .tuple [.int q.1, .int q.2]
theorem eqv_gp (x y : Int × Int) : (gp x).eqv (gp y) = decide (x = y) := by
  show ((x.1 == y.1) && ((x.2 == y.2) && true)) = _
  obtain ⟨a, b⟩ := x
  obtain ⟨c, d⟩ := y
  by_cases q : a = c <;> by_cases r : b = d <;> simp [q, r]
theorem cmp_eqI (a b : List Int) : CmpIs K p w n .Eq (.ints a) (.ints b) (decide (a = b)) := cmp_eqL (g := V.int) (B := 0) eqv_int (fun _ => rfl) (fun _ => Nat.zero_le _) a b
theorem cmp_neI (a b : List Int) : CmpIs K p w n .NotEq (.ints a) (.ints b) (!decide (a = b)) := cmp_neL (g := V.int) eqv_int (fun _ => rfl) (fun _ => Nat.zero_le _) a b
theorem cmp_eqP (a b : List (Int × Int)) : CmpIs K p w n .Eq (.list (a.map gp)) (.list (b.map gp)) (decide (a = b)) := cmp_eqL (B := 1) eqv_gp (fun _ => rfl) (fun _ => Nat.le_of_ble_eq_true rfl) a b
theorem cmp_neP (a b : List (Int × Int)) : CmpIs K p w n .NotEq (.list (a.map gp)) (.list (b.map gp)) (!decide (a = b)) := cmp_neL eqv_gp (fun _ => rfl) (fun _ => Nat.le_of_ble_eq_true rfl) a b
theorem any_int (l : List Int) (x : Int) : ((l.map V.int).any fun y => y.eqv (.int x)) = decide (x ∈ l) := by
  induction l with
  | nil => rfl
  | cons a l ih =>
    rw [List.map_cons, List.any_cons, ih, eqv_int]
    by_cases q : a = x
    · simp [q]
    · have : ¬ x = a := fun z => q z.symm
      simp [q, this]
theorem cmp_inI (l : List Int) (x : Int) : CmpIs K p w n .In (.int x) (.ints l) (decide (x ∈ l)) := by
  have := cmp_in (K := K) (p := p) (w := w) (n := n) (d := .int x) (es := l.map V.int) rfl (plains_map (fun _ => rfl) l) (Nat.zero_le _)
  rw [any_int] at this
  exact this
theorem cmp_notInI (l : List Int) (x : Int) : CmpIs K p w n .NotIn (.int x) (.ints l) (!decide (x ∈ l)) := by
  have := cmp_notIn (K := K) (p := p) (w := w) (n := n) (d := .int x) (es := l.map V.int) rfl (plains_map (fun _ => rfl) l) (Nat.zero_le _)
  rw [any_int] at this
  exact this
theorem ints_len (l : List Int) : (l.map V.int).length = l.length := List.length_map ..

theorem Evt.cast {ρ : List (Option V)} {e : Expr} {b b' : Bool} (h : Evt K p w n sc xs ρ e b) (q : b = b') : Evt K p w n sc xs ρ e b' := q ▸ h
/-! range_first_of, range_bounds -/
theorem keyC_first : KeyC (KK w) p w n (.ref 35) := keyC_of D_first_of (by kernel_rfl) (by
  have : (((fdAt (KK w) 35).scope.names).all fun y => y.2 != .cell) = true := by kernel_rfl
  intro y hy
  have := List.all_eq_true.mp this y hy
  simpa using this) (by decide +kernel)
noncomputable def bStep (f : List Int) (c : Int) : List Int := match f[f.length - 1]? with
  | some l => if c ≤ l then f.set (f.length - 1) (if c + 1 > l then c + 1 else l) else f ++ [c, c + 1]
  | none => f ++ [c, c + 1]
noncomputable def boundsOf (cs : List Int) : List Int := (sortI cs).foldl bStep []
theorem bStep_length (f : List Int) (c : Int) : (bStep f c).length ≤ f.length + 2 := by
  unfold bStep
  split
  · split <;> simp
  · simp
theorem foldB_length : ∀ (l f : List Int), (l.foldl bStep f).length ≤ f.length + 2 * l.length
  | [], f => by simp
  | c :: l, f => by
    have h1 := foldB_length l (bStep f c)
    have h2 := bStep_length f c
    simp only [List.foldl_cons, List.length_cons]
    omega
theorem foldl_take {α β : Type} (f : β → α → β) (l : List α) (b : β) {j : Nat} {c : α} (h : l[j]? = some c) : (l.take (j + 1)).foldl f b = f ((l.take j).foldl f b) c := by
  rw [List.take_add_one, h, List.foldl_append]; rfl
theorem bounds_tr {cs : List Int} (hz : cs.length < 60) : Body w p (n + 1) (topAt 7) true ["ranges", "found", "first", "last"] [.list (cs.map gpair)] 3 true (.ints (boundsOf cs)) := by
  refine .andThen (ρ' := [fz (.list (cs.map gpair)), ow (.ints []), none, none]) (.set 1 (Rhs.newList (.list .nil) rfl)) ?_
  have hcomp : (cs.filter fun _ => true).map gpair = cs.map gpair := by rw [List.filter_eq_self.mpr (by simp)]
  refine .cons (Tr1.forL (ds := (sortI cs).map gpair) (fun j ρ => ∃ a b, ρ = [fz (.list (cs.map gpair)), ow (.ints (((sortI cs).take j).foldl bStep [])), a, b]) (.sortedKey (fr := false) (cs := cs) (.cast (.comp (as := cs) (gv := gpair) (pt := fun _ => true) (f := gpair) [] (.list (.nm 0)) (by rw [sizeLine_eq]; omega) (fun c hc => ?_) (fun c hc _ => .nm 0)) (by rw [hcomp])) keyC_first (by omega) (by kernel_rfl) (by kernel_rfl)) ⟨none, none, rfl⟩ ?_) ?_
  · show Evt _ _ _ _ _ _ _ _ _
    exact Evt.cast (.cmp cmp_le (.itemT (.nm 0) .int (by decide) (by decide) rfl) (.itemT (.nm 0) .int (by decide) (by decide) rfl)) (by simp)
  · rintro j d ρ hd ⟨a, b, rfl⟩
    rw [List.getElem?_map, Option.map_eq_some_iff] at hd
    obtain ⟨c, hc, rfl⟩ := hd
    have hj : j < (sortI cs).length := (List.getElem?_eq_some_iff.mp hc).1
    have hlen : (sortI cs).length = cs.length := (sortI_perm cs).length_eq
    obtain ⟨f, hf⟩ : ∃ f, f = ((sortI cs).take j).foldl bStep [] := ⟨_, rfl⟩
    have hfl : f.length ≤ 200 := by
      have := foldB_length ((sortI cs).take j) []
      rw [← hf] at this
      have h2 : ((sortI cs).take j).length ≤ j := List.length_take_le ..
      simp at this; omega
    rw [← hf]
    refine ⟨_, .tuple [⟨2, _, _⟩, ⟨3, _, _⟩] rfl (by simp; exact ⟨⟨rfl, .inl rfl⟩, rfl, .inl rfl⟩), ?_⟩
    show Tr _ _ _ _ _ _ _ [fz (.list (cs.map gpair)), ow (.ints f), fz (.int c), fz (.int c)] _ _ _
    have next : bStep f c = ((sortI cs).take (j + 1)).foldl bStep [] := by rw [foldl_take _ _ _ hc, ← hf]
    rw [← next]
    cases hl : f[f.length - 1]? with
    | none =>
      have hf0 : f = [] := by
        cases f with
        | nil => rfl
        | cons x f => simp at hl
      subst hf0
      have e : bStep [] c = [c, c + 1] := rfl
      rw [e]
      refine .cons (Tr1.ife (b := false) (.and (.no (.cast (.cmp (cmp_neI [] []) (.nm 1) (.list .nil)) rfl))) (fun h => by exact ff h) fun _ => ?_) (fun ρ' q => .nil q)
      refine .cons (Tr1.ext (ds := []) (es := [.int c, .int (c + 1)]) 1 (.list (.cons (.nm 2) (.cons (.add (.nm 3) .int) .nil))) (by simp)) ?_
      rintro ρ' rfl
      exact .nil ⟨_, _, rfl⟩
    | some l =>
      have hf0 : 0 < f.length := by have := (List.getElem?_eq_some_iff.mp hl).1; omega
      have hne : (!decide (f = [])) = true := by
        cases f with
        | nil => simp at hf0
        | cons x f => simp
      have g1 : -((f.map V.int).length : Int) ≤ -1 := by rw [List.length_map]; omega
      have g2 : (f.map V.int)[((-1 : Int) + ((f.map V.int).length : Int)).toNat]? = some (.int l) := by
        rw [List.length_map, show ((-1 : Int) + (f.length : Int)).toNat = f.length - 1 by omega, List.getElem?_map, hl]; rfl
      refine .cons (Tr1.ife (b := decide (c ≤ l)) (.cast (.and (.c (.cast (.cmp (cmp_neI f []) (.nm 1) (.list .nil)) hne) fun _ => .c (.cmp cmp_le (.nm 2) (.itemNeg (.nm 1) (.neg .int) (by decide) (by decide) g1 g2)) fun _ => .nil)) (by simp)) (fun h => ?_) fun h => ?_) (fun ρ' q => .nil q)
      · have h := of_decide_eq_true h
        have e : bStep f c = f.set (f.length - 1) (if c + 1 > l then c + 1 else l) := by unfold bStep; rw [hl]; simp only [h, if_true]
        rw [e]
        refine .cons (Tr1.setL (ds := f.map .int) 1 (.tup (callB (fr := false) (.cons (.itemNeg (.nm 1) (.neg .int) (by decide) (by decide) g1 g2) (.cons (.add (.nm 3) .int) .nil)) ctr_max) rfl) (by rw [List.length_map]; exact hf0)) ?_
        rintro ρ' rfl
        refine .nil ⟨fz (.int c), fz (.int c), ?_⟩
        show [_, _, _, _] = [_, _, _, _]
        unfold V.ints
        rw [List.length_map, List.map_set]
      · have h := of_decide_eq_false h
        have e : bStep f c = f ++ [c, c + 1] := by unfold bStep; rw [hl]; simp only [h, if_false]
        rw [e]
        refine .cons (Tr1.ext (ds := f.map .int) (es := [.int c, .int (c + 1)]) 1 (.list (.cons (.nm 2) (.cons (.add (.nm 3) .int) .nil))) (by simp; omega)) ?_
        rintro ρ' rfl
        refine .nil ⟨fz (.int c), fz (.int c), ?_⟩
        show [_, _, _, _] = [_, _, _, _]
        unfold V.ints
        rw [List.map_append]; rfl
  · rintro ρ ⟨a, b, rfl⟩
    refine .retOwn 1 ⟨?_, fun h => h⟩
    unfold boundsOf
    rw [List.length_map, List.take_length]
theorem ctr_bounds {cs : List Int} (hz : cs.length < 60) : Ctr (KK w) p w (n + 2) (.ref 40) [.list (cs.map gpair)] true (.ints (boundsOf cs)) :=
  ctrB ["found", "first", "last"] D_bounds S_bounds (bounds_tr hz)
end Mine

-- Q4
namespace Mine
variable {K : Frag} {p : Program} {w : World} {n : Nat} {sc : Scope} {cm : Bool} {xs : List Str}

noncomputable def wantF (way : Str) (a b : Bool) : Bool := if way == ("union" : Str) then a || b else if way == ("both" : Str) then a && b else if way == ("without" : Str) then a && !b else a != b
theorem cmp_eqStr {x y : Str} (hx : PyData.strOk x = true) (hy : PyData.strOk y = true) : CmpIs K p w n .Eq (.str x) (.str y) (x == y) := cmp_eq (d := .str x) (e := .str y) hx hy (Nat.zero_le _)
theorem cmp_neBool {a b : Bool} : CmpIs K p w n .NotEq (.bool a) (.bool b) (a != b) := cmp_ne (d := .bool a) (e := .bool b) rfl rfl (Nat.zero_le _)
theorem cmp_eqBool {a b : Bool} : CmpIs K p w n .Eq (.bool a) (.bool b) (a == b) := cmp_eq (d := .bool a) (e := .bool b) rfl rfl (Nat.zero_le _)
theorem Tr.ifRet {ρ : List Ent} {t e : Expr} {ip pos : Pos} {b fr : Bool} {d : V} {ss : List Stmt} {Φ : PostN} {Ψ : PostR} (h : Evt K p w n sc xs (shw ρ) t b) (h1 : b = true → Evs K p w n sc xs (shw ρ) e fr d ∧ Ψ ρ false d) (h2 : b = false → Tr K p w n sc cm xs ρ ss Φ Ψ) : Tr K p w n sc cm xs ρ (.If t [.Return (some e) ip] [] pos :: ss) Φ Ψ :=
  .cons (Φ₁ := fun ρ' => ρ' = ρ ∧ b = false) (Tr1.ife h (fun q => .ret (h1 q).1 (h1 q).2) fun q => .nil ⟨rfl, q⟩) fun ρ' q => q.1 ▸ h2 q.2
theorem wanted_tr {way : Str} {a b : Bool} (hw : PyData.strOk way = true) : Body w p n (topAt 8) true ["way", "is_near", "is_far"] [.str way, .bool a, .bool b] 0 false (.bool (wantF way a b)) := by
  refine .ifRet (fr := false) (d := .bool (a || b)) (.cmp (cmp_eqStr hw (by decide +kernel)) (.nm 0) .strc) (fun h => ⟨.or2 (.nm 1) fun _ => .nm 2, ?_, fun h => h⟩) fun h1 => ?_
  · unfold wantF; rw [h]; rfl
  refine .ifRet (fr := false) (d := .bool (a && b)) (.cmp (cmp_eqStr hw (by decide +kernel)) (.nm 0) .strc) (fun h => ⟨.and2 (.nm 1) fun _ => .nm 2, ?_, fun h => h⟩) fun h2 => ?_
  · unfold wantF; rw [h1, h]; rfl
  refine .ifRet (fr := false) (d := .bool (a && !b)) (.cmp (cmp_eqStr hw (by decide +kernel)) (.nm 0) .strc) (fun h => ⟨.and2 (.nm 1) fun _ => .not (.nm 2), ?_, fun h => h⟩) fun h3 => ?_
  · unfold wantF; rw [h1, h2, h]; rfl
  refine .ret (fr := false) (d := .bool (a != b)) (.cmp cmp_neBool (.nm 1) (.nm 2)) ⟨?_, fun h => h⟩
  unfold wantF; rw [h1, h2, h3]; rfl
theorem ctr_wanted {way : Str} {a b : Bool} (hw : PyData.strOk way = true) : Ctr (KK w) p w (n + 1) (.ref 47) [.str way, .bool a, .bool b] false (.bool (wantF way a b)) :=
  ctrB [] D_wanted S_wanted (wanted_tr hw)

/-- the next bound of two rows of bounds; is it the head of this row; what is left of the row -/
noncomputable def hC (l m : List Int) : Int := if m.isEmpty || (!l.isEmpty && decide (l.headD 0 ≤ m.headD 0)) then l.headD 0 else m.headD 0
noncomputable def hU (l : List Int) (c : Int) : Bool := !l.isEmpty && (l.headD 0 == c)
noncomputable def hT (l : List Int) (u : Bool) : List Int := if u then l.tail else l
noncomputable def mergeGo (f : Bool → Bool → Bool) : Nat → List Int → List Int → Bool → Bool → Bool → List Int
  | 0, _, _, _, _, _ => []
  | k + 1, l, m, a, b, s => if l.isEmpty && m.isEmpty then [] else
    (if f (xor a (hU l (hC l m))) (xor b (hU m (hC l m))) = s then [] else [hC l m]) ++ mergeGo f k (hT l (hU l (hC l m))) (hT m (hU m (hC l m))) (xor a (hU l (hC l m))) (xor b (hU m (hC l m))) (f (xor a (hU l (hC l m))) (xor b (hU m (hC l m))))
theorem mergeGo_nil (f : Bool → Bool → Bool) (k : Nat) (a b s : Bool) : mergeGo f k [] [] a b s = [] := by cases k <;> rfl
theorem drop_head (l : List Int) (i : Nat) : (l.drop i).headD 0 = l.getD i 0 := by rw [List.headD_eq_head?_getD, List.head?_drop, List.getD_eq_getElem?_getD]
theorem drop_empty (l : List Int) (i : Nat) : (l.drop i).isEmpty = !decide (i < l.length) := by
  rw [Bool.eq_iff_iff, List.isEmpty_iff, List.drop_eq_nil_iff, Bool.not_eq_true', decide_eq_false_iff_not, Nat.not_lt]
theorem drop_u (l : List Int) (i : Nat) (c : Int) : hU (l.drop i) c = (decide (i < l.length) && (l.getD i 0 == c)) := by unfold hU; rw [drop_head, drop_empty, Bool.not_not]
theorem drop_t (l : List Int) (i : Nat) (u : Bool) : hT (l.drop i) u = l.drop (if u then i + 1 else i) := by cases u; rfl; exact List.tail_drop
theorem merge_step {f : Bool → Bool → Bool} {near far : List Int} {i j k : Nat} {a b s : Bool} (h : i < near.length ∨ j < far.length) {c : Int} (hc : c = if decide (j ≥ far.length) || (decide (i < near.length) && decide (near.getD i 0 ≤ far.getD j 0)) then near.getD i 0 else far.getD j 0)
    {u v : Bool} (hu : u = (decide (i < near.length) && (near.getD i 0 == c))) (hv : v = (decide (j < far.length) && (far.getD j 0 == c))) :
    mergeGo f (k + 1) (near.drop i) (far.drop j) a b s = (if f (xor a u) (xor b v) = s then [] else [c]) ++ mergeGo f k (near.drop (if u then i + 1 else i)) (far.drop (if v then j + 1 else j)) (xor a u) (xor b v) (f (xor a u) (xor b v)) := by
  have ec : hC (near.drop i) (far.drop j) = c := by
    rw [hc]; unfold hC
    rw [drop_head, drop_head, drop_empty, drop_empty, Bool.not_not, show (decide (j ≥ far.length)) = !decide (j < far.length) by rw [← decide_not]; exact decide_eq_decide.mpr Nat.not_lt.symm]
  rw [mergeGo, ec, drop_u, drop_u, ← hu, ← hv, drop_t, drop_t, drop_empty, drop_empty, if_neg]
  rw [← Bool.not_or, Bool.not_eq_true, Bool.not_eq_false', Bool.or_eq_true]
  exact h.imp decide_eq_true decide_eq_true

/-! range_merged -/
noncomputable def mergeB (f : Bool → Bool → Bool) (near far : List Int) : List Int := mergeGo f (near.length + far.length) near far false false false
theorem mergeGo_length (f : Bool → Bool → Bool) (k : Nat) : ∀ (l m : List Int) (a b s : Bool), (mergeGo f k l m a b s).length ≤ k := by
  induction k with
  | zero => exact fun _ _ _ _ _ => Nat.le_refl _
  | succ k ih =>
    intro l m a b s
    rw [mergeGo]
    split
    · exact Nat.zero_le _
    · rw [List.length_append, Nat.add_comm k]
      refine Nat.add_le_add ?_ (ih ..)
      split
      · exact Nat.zero_le _
      · exact Nat.le_refl _
theorem odd_cast (i : Nat) : (((i : Int).fmod 2) == 1) = (i % 2 == 1) := by
  rw [Int.fmod_eq_emod_of_nonneg _ (by decide)]
  have : ((i : Int) % 2) = ((i % 2 : Nat) : Int) := by omega
  rw [this]
  rcases Nat.mod_two_eq_zero_or_one i with h | h <;> rw [h] <;> rfl
theorem odd_step (i : Nat) (u : Bool) : ((if u then i + 1 else i) % 2 == 1) = xor (i % 2 == 1) u := by
  cases u
  · simp
  · rcases Nat.mod_two_eq_zero_or_one i with h | h
    · rw [h]; simp; omega
    · rw [h]; simp; omega
noncomputable abbrev mNames : List Str := ["near", "far", "way", "found", "at", "beside", "is_in", "bound", "is_next"]
theorem mItem {l : List Int} {i : Nat} (h : i < l.length) : (l.map V.int)[((i : Nat) : Int).toNat]? = some (.int (l.getD i 0)) := by
  rw [Int.toNat_natCast, List.getElem?_map, List.getD_eq_getElem?_getD, List.getElem?_eq_getElem h]; rfl
theorem merged_tr {near far : List Int} {way : Str} (hw : PyData.strOk way = true) (h1 : near.length ≤ 100) (h2 : far.length ≤ 100) : Body w p (n + 1) (topAt 9) true mNames [.ints near, .ints far, .str way] 6 true (.ints (mergeB (wantF way) near far)) := by
  refine .andThen (ρ' := [fz (.ints near), fz (.ints far), fz (.str way), ow (.ints []), fz (.int 0), fz (.int 0), fz (.bool false), none, none])
    (Tr1.asgTup [⟨3, _, _⟩, ⟨4, _, _⟩, ⟨5, _, _⟩, ⟨6, _, _⟩] (l := [(true, .list []), (false, .int 0), (false, .int 0), (false, .bool false)]) (.cons (Rhs.newList (.list .nil) rfl) (.cons (.tup .int rfl) (.cons (.tup .int rfl) (.cons (.tup .boolc rfl) .nil)))) rfl (by simp [sizeLine_eq]) (by simp; exact ⟨⟨rfl, .inl rfl⟩, ⟨rfl, .inl rfl⟩, ⟨rfl, .inl rfl⟩, ⟨rfl, .inl rfl⟩⟩) (fun env eo => rfl)) ?_
  let J : Nat → PostN := fun k ρ => ∃ (i j : Nat) (s : Bool) (found : List Int) (e1 e2 : Ent), ρ = [fz (.ints near), fz (.ints far), fz (.str way), ow (.ints found), fz (.int i), fz (.int j), fz (.bool s), e1, e2] ∧ i ≤ near.length ∧ j ≤ far.length ∧ k = (near.length - i) + (far.length - j) ∧ found.length ≤ i + j ∧ ∃ z, k ≤ z ∧
    found ++ mergeGo (wantF way) z (near.drop i) (far.drop j) (i % 2 == 1) (j % 2 == 1) s = mergeB (wantF way) near far
  refine .cons (Φ₁ := fun ρ => ∃ a b c d e, ρ = [fz (.ints near), fz (.ints far), fz (.str way), ow (.ints (mergeB (wantF way) near far)), a, b, c, d, e]) (Tr1.while J (near.length + far.length) ⟨0, 0, false, [], none, none, rfl, Nat.zero_le _, Nat.zero_le _, by simp, Nat.zero_le _, _, Nat.le_refl _, rfl⟩ ?_) ?_
  · rintro k ρ ⟨i, j, s, found, e1, e2, rfl, hi, hj, rfl, hf, z, hz, hm⟩
    have gi : (i : Int) < 2 ^ 63 := by omega
    have gj : (j : Int) < 2 ^ 63 := by omega
    refine ⟨decide (i < near.length) || decide (j < far.length), ?_, fun h => ?_, fun h => ?_⟩
    · exact .cast (.or (.c (.cmp cmp_lt (.nm 4) (callB (.cons (.nm 0) .nil) (ctr_lenI (by omega)))) fun _ => .c (.cmp cmp_lt (.nm 5) (callB (.cons (.nm 1) .nil) (ctr_lenI (by omega)))) fun _ => .nil)) (by simp)
    · have hij : i < near.length ∨ j < far.length := by simpa using h
      obtain ⟨c, hc⟩ : ∃ c, c = if decide (j ≥ far.length) || (decide (i < near.length) && decide (near.getD i 0 ≤ far.getD j 0)) then near.getD i 0 else far.getD j 0 := ⟨_, rfl⟩
      obtain ⟨u, hu⟩ : ∃ u, u = (decide (i < near.length) && (near.getD i 0 == c)) := ⟨_, rfl⟩
      obtain ⟨v, hv⟩ : ∃ v, v = (decide (j < far.length) && (far.getD j 0 == c)) := ⟨_, rfl⟩
      obtain ⟨z, rfl⟩ : ∃ y, z = y + 1 := ⟨z - 1, by omega⟩
      have step := merge_step (f := wantF way) (k := z) (a := i % 2 == 1) (b := j % 2 == 1) (s := s) hij hc hu hv
      -- the bound
      refine .cons (Φ₁ := (· = [fz (.ints near), fz (.ints far), fz (.str way), ow (.ints found), fz (.int i), fz (.int j), fz (.bool s), fz (.int c), e2])) (Tr1.ife (b := decide (j ≥ far.length) || (decide (i < near.length) && decide (near.getD i 0 ≤ far.getD j 0))) ?_ (fun q => ?_) fun q => ?_) ?_
      · refine .cast (.or (.c (.cmp cmp_ge (.nm 5) (callB (.cons (.nm 1) .nil) (ctr_lenI (by omega)))) fun hh => .c (.and (.c (.cmp cmp_lt (.nm 4) (callB (.cons (.nm 0) .nil) (ctr_lenI (by omega)))) fun h2 => .c (.cmp cmp_le (.item (.nm 0) (.nm 4) (by omega) gi (mItem ?_)) (.item (.nm 1) (.nm 5) (by omega) gj (mItem ?_))) fun _ => .nil)) fun _ => .nil)) ?_
        · have := of_decide_eq_true h2; omega
        · have := of_decide_eq_false hh; omega
        · simp
      · have hi' : i < near.length := by
          simp only [Bool.or_eq_true, Bool.and_eq_true, decide_eq_true_eq] at q; omega
        refine .cons (.set 7 (.tup (.item (.nm 0) (.nm 4) (by omega) gi (mItem hi')) rfl)) ?_
        rintro ρ' rfl
        refine .nil ?_
        rw [hc, if_pos q]; rfl
      · have hj' : j < far.length := by
          simp only [Bool.or_eq_false_iff, decide_eq_false_iff_not] at q; omega
        refine .cons (.set 7 (.tup (.item (.nm 1) (.nm 5) (by omega) gj (mItem hj')) rfl)) ?_
        rintro ρ' rfl
        refine .nil ?_
        rw [hc, if_neg (by rw [q]; simp)]; rfl
      rintro ρ rfl
      refine .cons (Φ₁ := (· = [fz (.ints near), fz (.ints far), fz (.str way), ow (.ints found), fz (.int ((if u then i + 1 else i : Nat))), fz (.int j), fz (.bool s), fz (.int c), e2])) (Tr1.ife (b := u) ?_ (fun q => ?_) fun q => ?_) ?_
      · refine .cast (.and (.c (.cmp cmp_lt (.nm 4) (callB (.cons (.nm 0) .nil) (ctr_lenI (by omega)))) fun h2 => .c (.cmp cmp_eqInt (.item (.nm 0) (.nm 4) (by omega) gi (mItem ?_)) (.nm 7)) fun _ => .nil)) ?_
        · have := of_decide_eq_true h2; omega
        · rw [hu]; simp
      · refine .cons (Tr1.iadd (i := 4) rfl rfl (.inl rfl) .int (by rfl)) ?_
        rintro ρ' rfl
        refine .nil ?_
        rw [if_pos q]; rfl
      · refine .nil ?_
        rw [q]; rfl
      rintro ρ rfl
      refine .cons (Φ₁ := (· = [fz (.ints near), fz (.ints far), fz (.str way), ow (.ints found), fz (.int ((if u then i + 1 else i : Nat))), fz (.int ((if v then j + 1 else j : Nat))), fz (.bool s), fz (.int c), e2])) (Tr1.ife (b := v) ?_ (fun q => ?_) fun q => ?_) ?_
      · refine .cast (.and (.c (.cmp cmp_lt (.nm 5) (callB (.cons (.nm 1) .nil) (ctr_lenI (by omega)))) fun h2 => .c (.cmp cmp_eqInt (.item (.nm 1) (.nm 5) (by omega) gj (mItem ?_)) (.nm 7)) fun _ => .nil)) ?_
        · have := of_decide_eq_true h2; omega
        · rw [hv]; simp
      · refine .cons (Tr1.iadd (i := 5) rfl rfl (.inl rfl) .int (by rfl)) ?_
        rintro ρ' rfl
        refine .nil ?_
        rw [if_pos q]; rfl
      · refine .nil ?_
        rw [q]; rfl
      rintro ρ rfl
      obtain ⟨t, ht⟩ : ∃ t, t = wantF way (xor (i % 2 == 1) u) (xor (j % 2 == 1) v) := ⟨_, rfl⟩
      refine .andThen (ρ' := [fz (.ints near), fz (.ints far), fz (.str way), ow (.ints found), fz (.int ((if u then i + 1 else i : Nat))), fz (.int ((if v then j + 1 else j : Nat))), fz (.bool s), fz (.int c), fz (.bool t)])
        (.set 8 (.tup (fr := false) (.cast (callG (.cons (.nm 2) (.cons (.cmp cmp_eqInt (.mod (.nm 4) .int (by decide) (by decide)) .int) (.cons (.cmp cmp_eqInt (.mod (.nm 5) .int (by decide) (by decide)) .int) .nil))) (ctr_wanted hw)) (by rw [odd_cast, odd_cast, odd_step, odd_step, ht])) rfl)) ?_
      have hu1 : (if u = true then i + 1 else i) ≤ near.length := by
        split
        · rename_i q
          rw [q] at hu
          have := (Bool.and_eq_true_iff.mp hu.symm).1
          have := of_decide_eq_true this
          omega
        · exact hi
      have hv1 : (if v = true then j + 1 else j) ≤ far.length := by
        split
        · rename_i q
          rw [q] at hv
          have := (Bool.and_eq_true_iff.mp hv.symm).1
          have := of_decide_eq_true this
          omega
        · exact hj
      have huv : u = true ∨ v = true := by
        rw [hu, hv]
        by_cases T : (decide (j ≥ far.length) || (decide (i < near.length) && decide (near.getD i 0 ≤ far.getD j 0))) = true
        · rw [if_pos T] at hc
          have : i < near.length := by
            simp only [Bool.or_eq_true, Bool.and_eq_true, decide_eq_true_eq] at T; omega
          left; simp [this, hc]
        · rw [if_neg T] at hc
          have : j < far.length := by
            simp only [Bool.or_eq_true, decide_eq_true_eq, not_or] at T; omega
          right; simp [this, hc]
      have hlt : (near.length - (if u = true then i + 1 else i)) + (far.length - (if v = true then j + 1 else j)) < (near.length - i) + (far.length - j) := by
        cases u <;> cases v <;> simp at * <;> omega
      have hfl : i + j + 1 ≤ (if u = true then i + 1 else i) + (if v = true then j + 1 else j) := by
        cases u <;> cases v <;> simp at * <;> omega
      rw [step, ← ht] at hm
      refine .cons (Tr1.ife (b := t != s) (.cmp cmp_neBool (.nm 8) (.nm 6)) (fun q => ?_) fun q => ?_) fun ρ' q => .nil q
      · have q' : t ≠ s := by simpa using q
        refine .cons (.app 3 (ds := found.map .int) (.tup (.nm 7) rfl) (by rw [List.length_map]; omega)) ?_
        rintro ρ' rfl
        refine .cons (.set 6 (.tup (.nm 8) rfl)) ?_
        rintro ρ' rfl
        refine .nil ⟨_, hlt, (if u = true then i + 1 else i), (if v = true then j + 1 else j), t, found ++ [c], fz (.int c), fz (.bool t), ?_, hu1, hv1, rfl, by rw [List.length_append, List.length_singleton]; omega, z, by omega, ?_⟩
        · show [_, _, _, _, _, _, _, _, _] = [_, _, _, _, _, _, _, _, _]
          unfold V.ints
          rw [List.map_append]; rfl
        · rw [if_neg q'] at hm
          rw [odd_step, odd_step, List.append_assoc]; exact hm
      · have q' : t = s := by simpa using q
        refine .nil ⟨_, hlt, (if u = true then i + 1 else i), (if v = true then j + 1 else j), s, found, fz (.int c), fz (.bool t), rfl, hu1, hv1, rfl, by omega, z, by omega, ?_⟩
        rw [if_pos q'] at hm
        rw [odd_step, odd_step, ← q']; exact hm
    · have hij : near.length ≤ i ∧ far.length ≤ j := by simpa using h
      rw [List.drop_eq_nil_of_le hij.1, List.drop_eq_nil_of_le hij.2, mergeGo_nil, List.append_nil] at hm
      exact ⟨_, _, _, _, _, by rw [hm]⟩
  · rintro ρ ⟨a, b, c, d, e, rfl⟩
    exact .retOwn 3 ⟨rfl, fun h => h⟩

theorem ctr_merged {near far : List Int} {way : Str} (hw : PyData.strOk way = true) (h1 : near.length ≤ 100) (h2 : far.length ≤ 100) : Ctr (KK w) p w (n + 2) (.ref 54) [.ints near, .ints far, .str way] true (.ints (mergeB (wantF way) near far)) :=
  ctrB ["found", "at", "beside", "is_in", "bound", "is_next"] D_merged S_merged (merged_tr hw h1 h2)
end Mine

-- Q5
namespace Mine
variable {K : Frag} {p : Program} {w : World} {n : Nat} {sc : Scope} {cm : Bool} {xs : List Str}

/-! values of the top -/
noncomputable def gval (K : Frag) (x : Str) : Value := match nsIn K mainGlobals x with | some (some v) => v | _ => .none
noncomputable def tokOf : Value → Tok
  | .int _ t => t
  | _ => 0
theorem Evs.gint {ρ : List (Option V)} {x : Str} {pos : Pos} {i : Int} (e : nsIn (KK w) mainGlobals x = some (some (.int i (tokOf (gval (KK w) x)))) := by kernel_rfl) (hk : sc.names.lookup x = some .globalImplicit := by rfl) (h1 : (x == ("__debug__" : Str)) = false := by rfl) : Evs (KK w) p w n sc xs ρ (.Name x pos) false (.int i) :=
  .gname hk e (fun h X wd lv => .int _ _) h1
theorem cmp_isNone {l : List V} : CmpIs K p w n .Is (.list l) .none false := fun A E s X a b Q r wd ra rb h => by cases ra using Rep.casesList; cases rb using Rep.casesNone; exact is_ref_none h

/-! CodeSet -/
noncomputable def CS (b : List Int) : V := .inst none 150 [("bounds", .ints b)]
theorem S_cinit : (fdAt (KK w) 69).scope = scopeOf (inCls 10 0) := by kernel_rfl
noncomputable def isNoneTup (K : Frag) (a : Addr) : Bool := match K.lookup a with
  | some ⟨_, _, .seq it _, _⟩ => match it.toList with
    | [.none] => true
    | _ => false
  | _ => false
theorem sq_of {K : Frag} {a : Addr} (h : isNoneTup K a = true) : ∃ o k, K.lookup a = some o ∧ o.data = .seq #[.none] k := by
  unfold isNoneTup at h
  split at h
  · rename_i it k _ e
    split at h
    · rename_i e2
      refine ⟨_, k, e, ?_⟩
      have : it = #[.none] := by rw [← Array.toArray_toList (xs := it), e2]
      rw [this]
    · exact ff h
  · exact ff h
theorem bind_cinit : ∀ fd : FuncData, fd.params = paramsOf (inCls 10 0) → ∀ (s : Shared) (a b : Value) (T : Addr) (o : Obj) (k : Nat), fd.defaults = .ref T → s.heap.get? T = some o → o.data = .seq #[.none] k → BindsTo s fd ⟨[a, b], []⟩ [("self", a), ("bounds", b)] := by
  intro fd hp s a b T o k hd ho hs
  obtain ⟨f1, f2, f3, f4, f5, f6, f7, f8, f9, f10, f11, f12, f13, f14, f15⟩ := fd
  subst hp
  exact BindsTo.of_defaults hd ho hs rfl rfl
theorem M_cinit : MetOk (KK w) 69 (fdAt (KK w) 69) ["self", "bounds"] (bodyOf (inCls 10 0)) :=
  ⟨lk_of (by kernel_rfl), by kernel_rfl, by kernel_rfl, by kernel_rfl, by kernel_rfl, by kernel_rfl, by kernel_rfl, by kernel_rfl, by kernel_rfl, (by
    have : (((fdAt (KK w) 69).scope.names).all fun y => y.2 != .cell) = true := by kernel_rfl
    intro y hy
    have := List.all_eq_true.mp this y hy
    simpa using this), by kernel_rfl, fun s vs X h => by
    match vs, h with
    | [a, b], _ =>
      obtain ⟨o, k, e, ed⟩ := sq_of (K := KK w) (a := 62) (by kernel_rfl)
      exact bind_cinit _ (by kernel_rfl) s a b 62 o k (by kernel_rfl) (X _ _ e) ed⟩
theorem ctrOB {fa : Addr} {i : Stmt} {self : Str} {ps : List Str} {cm : Bool} {xs : List Str} {args : List V} {C : Addr} {fs fs' : List (Str × V)} (rest : List Str) (D : MetOk (KK w) fa (fdAt (KK w) fa) (self :: ps) (bodyOf i)) (S : (fdAt (KK w) fa).scope = scopeOf i)
    (T : ∀ id, Tr (KK w) p w n (scopeOf i) cm xs (some (true, .inst (some id) C fs) :: entry args rest.length) (bodyOf i) (fun ρ => ρ[0]? = some (some (true, .inst (some id) C fs'))) (fun ρ f e => e = .none ∧ ρ[0]? = some (some (true, .inst (some id) C fs'))))
    (hx : xs = (self :: ps) ++ rest := by rfl) (nd : nodupB xs = true := by kernel_rfl) (hl : args.length = ps.length := by rfl) (hp : ((self :: ps).all fun x => (scopeOf i).names.lookup x == some .local) = true := by kernel_rfl) : CtrO (KK w) p w (n + 1) (.ref fa) C fs args fs' := by
  refine ctrO_of_tr (cm := cm) D hx (nodup_of nd) hl (fun x h => ?_) (by rw [S]; exact T)
  rw [S]
  have := List.all_eq_true.mp hp x h
  simpa using this
theorem ctr_CodeSet {b : List Int} : Ctr (KK w) p w (n + 2) (.ref 150) [.ints b] true (CS b) := by
  refine ctr_make (fI := 69) (by kernel_rfl) (by kernel_rfl) (by kernel_rfl) (ctrOB [] (cm := true) M_cinit S_cinit fun id => ?_)
  refine .cons (Tr1.setAttr (i := 0) (d := .ints b) (.hid (fr := false) (.ite (b := false) (.cmp cmp_isNone (.nm 1) .nonec) (fun h => by exact ff h) fun _ => .nm 1)) rfl rfl (by kernel_rfl)) ?_
  rintro ρ rfl
  exact .nil rfl
end Mine

-- Q6
namespace Mine
variable {K : Frag} {p : Program} {w : World} {n : Nat} {sc : Scope} {cm : Bool} {xs : List Str}

theorem ctr_of {cs : List Int} (hz : cs.length < 60) : Ctr (KK w) p w (n + 3) (.ref 76) [.list (cs.map gpair)] true (CS (boundsOf cs)) :=
  ctrB [] (cm := true) (xs := ["ranges"]) D_of S_of (.retNew (callG (.cons (callG (.cons (.nm 0) .nil) (ctr_bounds hz)).weak .nil) ctr_CodeSet) ⟨rfl, fun h => h⟩)
noncomputable def recB (K : Frag) (pp f : Addr) : Bool := match recIn K pp "staticmethod" with
  | some (.ref a :: _) => a == f
  | _ => false
theorem rec_of {K : Frag} {pp f : Addr} (h : recB K pp f = true) : ∃ rest, recIn K pp "staticmethod" = some (.ref f :: rest) := by
  unfold recB at h
  split at h
  · rename_i e
    have := eq_of_beq h
    subst this
    exact ⟨_, e⟩
  · exact ff h
theorem set_of_tr {cs : List Int} (hz : cs.length < 60) : Body w p (n + 3) (topAt 11) true ["codes"] [.ints cs] 0 true (CS (boundsOf cs)) := by
  have hcomp : (cs.filter fun _ => true).map gpair = cs.map gpair := by rw [List.filter_eq_self.mpr (by simp)]
  obtain ⟨rest, hr⟩ := rec_of (K := KK w) (pp := 78) (f := 76) (by kernel_rfl)
  refine .retNew (.static (C := 150) (f := 76) (pp := 78) (mc := .type "type") (.cons (.cast (.comp (fr := false) (as := cs) (gv := V.int) (pt := fun _ => true) (f := gpair) [] (.list (.nm 0)) (by rw [sizeLine_eq]; omega) (fun c hc => rfl) (fun c hc _ => .tuple (.cons (.nm 0) (.cons (.nm 0) .nil)))) (by rw [hcomp])) .nil) (ctr_of hz) (by kernel_rfl) (by kernel_rfl) (by kernel_rfl) hr) ⟨rfl, fun h => h⟩
theorem ctr_set_of {cs : List Int} (hz : cs.length < 60) : Ctr (KK w) p w (n + 4) (.ref 159) [.ints cs] true (CS (boundsOf cs)) := ctrB [] D_set_of S_set_of (set_of_tr hz)

/-! the methods of a CodeSet -/
noncomputable def rangesOf (b : List Int) : List (Int × Int) := (List.range (b.length / 2)).map fun k => (b.getD (2 * k) 0, b.getD (2 * k + 1) 0 - 1)
theorem attrB {ρ : List (Option V)} {o : Expr} {pos : Pos} {b : List Int} (h1 : Evs (KK w) p w n sc xs ρ o false (CS b))
    (he : ∀ env, eval (.Attribute o "bounds" pos) env = (do let ov ← eval o env; standAt pos.atName; let r ← holding [ov] (getAttr ov "bounds" true); letTemporaryGo o ov r; pure r) := by intro; with_unfolding_all rfl) : Evs (KK w) p w n sc xs ρ (.Attribute o "bounds" pos) false (.ints b) :=
  .attr h1 rfl (by kernel_rfl) he
theorem nItem {l : List Int} {i : Int} (h0 : 0 ≤ i) (h : i < l.length) : (l.map V.int)[i.toNat]? = some (.int (l.getD i.toNat 0)) := by
  have h' : i.toNat < l.length := by omega
  rw [List.getElem?_map, List.getD_eq_getElem?_getD, List.getElem?_eq_getElem h']; rfl
theorem fitsL {i : Int} (h1 : -10000000 ≤ i) (h2 : i ≤ 10000000) : Builtin.Range.rangeFitsLong i = true := by
  unfold Builtin.Range.rangeFitsLong
  simp only [Bool.and_eq_true, decide_eq_true_eq]
  omega
theorem evenRange {m : Nat} (h : m ≤ 1000) : Builtin.Range.small 0 ((2 * m : Nat) : Int) 2 = true ∧ Builtin.Range.rangeSize 0 ((2 * m : Nat) : Int) 2 = (m : Int) := by
  have e : Builtin.Range.rangeSize 0 ((2 * m : Nat) : Int) 2 = (m : Int) := by
    unfold Builtin.Range.rangeSize
    rw [if_pos (by decide)]
    split <;> omega
  refine ⟨?_, e⟩
  unfold Builtin.Range.small
  rw [e, fitsL (by omega) (by omega), fitsL (by omega) (by omega), fitsL (by omega) (by omega), fitsL (by omega) (by omega), if_pos (by decide), fitsL (by omega) (by omega)]
  simp
theorem cranges_tr {b : List Int} {m : Nat} (hb : b.length = 2 * m) (hm : m ≤ 1000) : Body w p (n + 1) (inCls 10 3) true ["self"] [CS b] 0 true (.list ((rangesOf b).map gp)) := by
  obtain ⟨r1, r2⟩ := evenRange hm
  have e : ((List.range m).filter fun _ => true).map (fun k => gp (b.getD (2 * k) 0, b.getD (2 * k + 1) 0 - 1)) = (rangesOf b).map gp := by
    rw [List.filter_eq_self.mpr (by simp)]
    unfold rangesOf
    rw [hb, List.map_map, Nat.mul_div_cancel_left _ (by decide)]; rfl
  have e2 : (List.range m).map (fun k : Nat => V.int (2 * k : Nat)) = (rInts 0 2 m).map .int := by
    unfold rInts
    rw [List.map_map]
    exact List.map_congr_left fun k _ => congrArg V.int (show ((2 * k : Nat) : Int) = 0 + (k : Int) * 2 by omega)
  refine .retNew (.cast (.comp (as := List.range m) (gv := fun k => .int (2 * k : Nat)) (pt := fun _ => true) (f := fun k => gp (b.getD (2 * k) 0, b.getD (2 * k + 1) 0 - 1)) [0] (by
    rw [e2]
    exact .range (fr := false) (.cast (callT (.cons .int (.cons (callB (.cons (attrB (.nm 0)) .nil) (ctr_lenI (by omega))) (.cons .int .nil))) (ctr_range3 (by decide) (by decide))) (by rw [hb])) r1 r2) (by rw [List.length_range, sizeLine_eq]; omega) (fun k hk => rfl) (fun k hk _ => ?_)) (congrArg V.list e)) ⟨rfl, fun h => h⟩
  have hk' : k < m := List.mem_range.mp hk
  have g1 : (b.map V.int)[((2 * k : Nat) : Int).toNat]? = some (.int (b.getD (2 * k) 0)) := mItem (by omega)
  have g2 : (b.map V.int)[(((2 * k : Nat) : Int) + 1).toNat]? = some (.int (b.getD (2 * k + 1) 0)) := by
    rw [show (((2 * k : Nat) : Int) + 1) = ((2 * k + 1 : Nat) : Int) by omega]
    exact mItem (by omega)
  exact .tuple (.cons (.item (attrB (.nm 1)) (.nm 0) (by omega) (by omega) g1) (.cons (.sub (.item (attrB (.nm 1)) (.add (.nm 0) .int) (by omega) (by omega) g2) .int) .nil))
theorem ctr_cranges {b : List Int} {m : Nat} (hb : b.length = 2 * m) (hm : m ≤ 1000) : Ctr (KK w) p w (n + 2) (.ref 91) [CS b] true (.list ((rangesOf b).map gp)) := ctrB [] D_cranges S_cranges (cranges_tr hb hm)
theorem ctr_opposite {b : List Int} (hb : b.length ≤ 100) : Ctr (KK w) p w (n + 3) (.ref 126) [CS b] true (CS (mergeB (wantF "without") [0, 1114112] b)) :=
  ctrB [] (cm := true) (xs := ["self"]) D_opposite S_opposite (.retNew (callG (.cons (callG (fr := true) (.cons (.list (ds := [.int 0, .int 1114112]) (.cons .int (.cons .gint .nil))) (.cons (attrB (.nm 0)) (.cons .strc .nil))) (ctr_merged (near := [0, 1114112]) (by decide +kernel) (by simp) hb)).weak .nil) ctr_CodeSet) ⟨rfl, fun h => h⟩)
theorem ctr_apart {a b : List Int} (ha : a.length ≤ 100) (hb : b.length ≤ 100) : Ctr (KK w) p w (n + 3) (.ref 173) [CS a, CS b] true (CS (mergeB (wantF "one") a b)) :=
  ctrB [] (cm := true) (xs := ["near", "far"]) D_apart S_apart (.retNew (callG (.cons (callG (fr := true) (.cons (attrB (.nm 0)) (.cons (attrB (.nm 1)) (.cons .strc .nil))) (ctr_merged (by decide +kernel) ha hb)).weak .nil) ctr_CodeSet) ⟨rfl, fun h => h⟩)
theorem ctr_within {a b : List Int} (ha : a.length ≤ 100) (hb : b.length ≤ 100) : Ctr (KK w) p w (n + 3) (.ref 180) [CS a, CS b] false (.bool (decide (mergeB (wantF "without") a b = []))) :=
  ctrB [] (cm := true) (xs := ["near", "far"]) D_within S_within (.ret (fr := false) (.cmp (cmp_eqI _ []) (callG (fr := true) (.cons (attrB (.nm 0)) (.cons (attrB (.nm 1)) (.cons .strc .nil))) (ctr_merged (n := n) (by decide +kernel) ha hb)).weak (.list .nil)) ⟨rfl, fun h => h⟩)
theorem ctr_meet {a b : List Int} (ha : a.length ≤ 100) (hb : b.length ≤ 100) : Ctr (KK w) p w (n + 3) (.ref 187) [CS a, CS b] false (.bool (!decide (mergeB (wantF "both") a b = []))) :=
  ctrB [] (cm := true) (xs := ["near", "far"]) D_meet S_meet (.ret (fr := false) (.cmp (cmp_neI _ []) (callG (fr := true) (.cons (attrB (.nm 0)) (.cons (attrB (.nm 1)) (.cons .strc .nil))) (ctr_merged (n := n) (by decide +kernel) ha hb)).weak (.list .nil)) ⟨rfl, fun h => h⟩)
end Mine

-- Q7
namespace Mine
variable {K : Frag} {p : Program} {w : World} {n : Nat} {sc : Scope} {cm : Bool} {xs : List Str}

noncomputable def optV : Option Int → V
  | some i => .int i
  | none => .none
noncomputable def lastAt (b : List Int) (code : Int) : Option Int := if cnt b code % 2 = 1 then some code else if 0 < cnt b code then some (b.getD (cnt b code - 1) 0 - 1) else none
theorem last_at_tr {b : List Int} {code : Int} (ha : Asc b) (hb : b.length ≤ 1000) : Body w p (n + 1) (topAt 16) true ["code_set", "code", "place"] [CS b, .int code] 1 false (optV (lastAt b code)) := by
  have hk := cnt_le b code
  refine .andThen (ρ' := [fz (CS b), fz (.int code), fz (.int (cnt b code : Nat))]) (.set 2 (.tup (fr := false) (.cast (.add (callG (.cons (attrB (.nm 0)) (.cons (.nm 1) .nil)) (ctr_place ha hb)) .int) (by simp)) rfl)) ?_
  refine .ifRet (b := cnt b code % 2 == 1) (fr := false) (d := .int code) (.cast (.cmp cmp_eqInt (.mod (.nm 2) .int (by decide) (by decide)) .int) (odd_cast _)) (fun h => ⟨.nm 1, ?_, fun h => h⟩) fun h => ?_
  · unfold lastAt; rw [if_pos (by simpa using h)]; rfl
  · have h' : ¬ cnt b code % 2 = 1 := by simpa using h
    refine .ret (fr := false) (.ite (b := decide ((cnt b code : Int) > 0)) (.cmp cmp_gt (.nm 2) .int) (fun q => ?_) fun q => ?_) ⟨rfl, fun h => h⟩
    · have q' : 0 < cnt b code := by have := of_decide_eq_true q; omega
      have e : optV (lastAt b code) = .int (b.getD (cnt b code - 1) 0 - 1) := by unfold lastAt; rw [if_neg h', if_pos q']; rfl
      have g : (b.map V.int)[((cnt b code : Int) - 1).toNat]? = some (.int (b.getD (cnt b code - 1) 0)) := by
        rw [show ((cnt b code : Int) - 1) = ((cnt b code - 1 : Nat) : Int) by omega]
        exact mItem (by omega)
      rw [e]
      exact .sub (.item (attrB (.nm 0)) (.sub (.nm 2) .int) (by omega) (by omega) g) .int
    · have q' : ¬ 0 < cnt b code := by have := of_decide_eq_false q; omega
      have e : optV (lastAt b code) = .none := by unfold lastAt; rw [if_neg h', if_neg q']; rfl
      rw [e]
      exact .nonec
theorem ctr_last_at {b : List Int} {code : Int} (ha : Asc b) (hb : b.length ≤ 1000) : Ctr (KK w) p w (n + 2) (.ref 194) [CS b, .int code] false (optV (lastAt b code)) := ctrB ["place"] D_last_at S_last_at (last_at_tr ha hb)

noncomputable def numGo (code : Int) : List (Int × Int) → Int → Int
  | [], f => f
  | (a, z) :: r, f => if a ≥ code then f else numGo code r (f + ((if code < z + 1 then code else z + 1) - a))
theorem evM {ρ : List (Option V)} {o : Expr} {apos pos : Pos} {b : List Int} {m : Nat} (h1 : Evs (KK w) p w (n + 2) sc xs ρ o false (CS b)) (hb : b.length = 2 * m) (hm : m ≤ 1000) (hline : (apos.endLine == pos.line) = true := by rfl) (hbase : ∀ env, attributeBase o "ranges" env (eval o env) = eval o env := by intro _; rfl) :
    Evs (KK w) p w (n + 2) sc xs ρ (.Call (.Attribute o "ranges" apos) [] [] pos) true (.list ((rangesOf b).map gp)) :=
  .method h1 .nil (ctr_cranges hb hm) (by kernel_rfl) rfl rfl (by decide) hline hbase
theorem number_tr {b : List Int} {code : Int} {m : Nat} (hb : b.length = 2 * m) (hm : m ≤ 1000) : Body w p (n + 2) (topAt 17) true ["code_set", "code", "found", "first", "last"] [CS b, .int code] 3 false (.int (numGo code (rangesOf b) 0)) := by
  refine .andThen (ρ' := [fz (CS b), fz (.int code), fz (.int 0), none, none]) (.set 2 (.tup .int rfl)) ?_
  refine .cons (Tr1.for (ds := (rangesOf b).map gp) (fun j ρ => ∃ f x y, ρ = [fz (CS b), fz (.int code), fz (.int f), x, y] ∧ numGo code ((rangesOf b).drop j) f = numGo code (rangesOf b) 0) (.list (evM (.nm 0) hb hm)) ⟨0, none, none, rfl, rfl⟩ ?_) ?_
  · rintro j d ρ hd ⟨f, x, y, rfl, hf⟩
    rw [List.getElem?_map, Option.map_eq_some_iff] at hd
    obtain ⟨⟨a, z⟩, hc, rfl⟩ := hd
    have hdrop : (rangesOf b).drop j = (a, z) :: (rangesOf b).drop (j + 1) := by
      obtain ⟨hlt, e⟩ := List.getElem?_eq_some_iff.mp hc
      rw [List.drop_eq_getElem_cons hlt, e]
    rw [hdrop, numGo] at hf
    refine ⟨_, .tuple [⟨3, _, _⟩, ⟨4, _, _⟩] rfl (by simp; exact ⟨⟨rfl, .inl rfl⟩, rfl, .inl rfl⟩), ?_⟩
    show Tr _ _ _ _ _ _ _ [fz (CS b), fz (.int code), fz (.int f), fz (.int a), fz (.int z)] _ _ _
    refine .ifRet (b := decide (a ≥ code)) (fr := false) (d := .int f) (.cmp cmp_ge (.nm 3) (.nm 1)) (fun h => ⟨.nm 2, ?_, fun h => h⟩) fun h => ?_
    · rw [if_pos (of_decide_eq_true h)] at hf
      rw [hf]
    · rw [if_neg (of_decide_eq_false h)] at hf
      refine .cons (Tr1.iadd (i := 2) rfl rfl (.inl rfl) (.sub (callB (.cons (.add (.nm 4) .int) (.cons (.nm 1) .nil)) ctr_min) (.nm 3)) (by rfl)) ?_
      rintro ρ' rfl
      exact .nil ⟨_, _, _, rfl, hf⟩
  · rintro ρ ⟨f, x, y, rfl, hf⟩
    rw [List.length_map, List.drop_length, numGo] at hf
    exact .ret (fr := false) (.nm 2) ⟨by rw [hf], fun h => h⟩
theorem ctr_number {b : List Int} {code : Int} {m : Nat} (hb : b.length = 2 * m) (hm : m ≤ 1000) : Ctr (KK w) p w (n + 3) (.ref 201) [CS b, .int code] false (.int (numGo code (rangesOf b) 0)) := ctrB ["found", "first", "last"] D_number_of S_number_of (number_tr hb hm)

noncomputable def codeGo : List (Int × Int) → Int → Option Int
  | [], _ => none
  | (a, z) :: r, l => if l ≤ z - a then some (a + l) else codeGo r (l - (z + 1 - a))
theorem code_tr {b : List Int} {num : Int} {m : Nat} (hb : b.length = 2 * m) (hm : m ≤ 1000) : Body w p (n + 2) (topAt 18) true ["code_set", "number", "left", "first", "last"] [CS b, .int num] 3 false (optV (codeGo (rangesOf b) num)) := by
  refine .andThen (ρ' := [fz (CS b), fz (.int num), fz (.int num), none, none]) (.set 2 (.tup (.nm 1) rfl)) ?_
  refine .cons (Tr1.for (ds := (rangesOf b).map gp) (fun j ρ => ∃ f x y, ρ = [fz (CS b), fz (.int num), fz (.int f), x, y] ∧ codeGo ((rangesOf b).drop j) f = codeGo (rangesOf b) num) (.list (evM (.nm 0) hb hm)) ⟨num, none, none, rfl, rfl⟩ ?_) ?_
  · rintro j d ρ hd ⟨f, x, y, rfl, hf⟩
    rw [List.getElem?_map, Option.map_eq_some_iff] at hd
    obtain ⟨⟨a, z⟩, hc, rfl⟩ := hd
    have hdrop : (rangesOf b).drop j = (a, z) :: (rangesOf b).drop (j + 1) := by
      obtain ⟨hlt, e⟩ := List.getElem?_eq_some_iff.mp hc
      rw [List.drop_eq_getElem_cons hlt, e]
    rw [hdrop, codeGo] at hf
    refine ⟨_, .tuple [⟨3, _, _⟩, ⟨4, _, _⟩] rfl (by simp; exact ⟨⟨rfl, .inl rfl⟩, rfl, .inl rfl⟩), ?_⟩
    show Tr _ _ _ _ _ _ _ [fz (CS b), fz (.int num), fz (.int f), fz (.int a), fz (.int z)] _ _ _
    refine .ifRet (b := decide (f ≤ z - a)) (fr := false) (d := .int (a + f)) (.cmp cmp_le (.nm 2) (.sub (.nm 4) (.nm 3))) (fun h => ⟨.add (.nm 3) (.nm 2), ?_, fun h => h⟩) fun h => ?_
    · rw [if_pos (of_decide_eq_true h)] at hf
      rw [← hf]; rfl
    · rw [if_neg (of_decide_eq_false h)] at hf
      refine .cons (Tr1.isub (i := 2) rfl rfl (.inl rfl) (.sub (.add (.nm 4) .int) (.nm 3)) (by rfl)) ?_
      rintro ρ' rfl
      exact .nil ⟨_, _, _, rfl, hf⟩
  · rintro ρ ⟨f, x, y, rfl, hf⟩
    rw [List.length_map, List.drop_length, codeGo] at hf
    exact .ret (fr := false) .nonec ⟨by rw [← hf]; rfl, fun h => h⟩
theorem ctr_code {b : List Int} {num : Int} {m : Nat} (hb : b.length = 2 * m) (hm : m ≤ 1000) : Ctr (KK w) p w (n + 3) (.ref 208) [CS b, .int num] false (optV (codeGo (rangesOf b) num)) := ctrB ["left", "first", "last"] D_code_at S_code_at (code_tr hb hm)
end Mine

-- Q8
namespace Mine
variable {K : Frag} {p : Program} {w : World} {n : Nat} {sc : Scope} {cm : Bool} {xs : List Str}

theorem ctr_range2 {a b : Int} : Ctr K p w n (.type "range") [.int a, .int b] false (.range a b 1) :=
  fun A E s X vs Q r wd lv rp po => by
    cases rp using RepL.casesCons with
    | cons a1 q =>
      cases q using RepL.casesCons with
      | cons b1 q =>
        cases q using RepL.casesNil; cases a1 using Rep.casesInt; cases b1 using Rep.casesInt
        obtain ⟨k1, k2, k3⟩ := new_keep lv { cls := .type "range", data := .fields #[.int a _, .int b _, .int 1 _] } rfl
        exact call_range_2 (po _ _ _ (.push _ _) (.range k1 k2) ff)
/-- all codes of ranges, one behind the other -/
noncomputable def runI (q : Int × Int) : List Int := rInts q.1 1 (q.2 + 1 - q.1).toNat
noncomputable def codesOf (rs : List (Int × Int)) : List Int := rs.flatMap runI
theorem unitRange {a b : Int} (h : -10000 ≤ a) (h2 : b ≤ 2000000) (h3 : (b - a).toNat ≤ 9000000) (h4 : a ≤ 2000000) (h5 : -10000 ≤ b) : Builtin.Range.small a b 1 = true ∧ Builtin.Range.rangeSize a b 1 = ((b - a).toNat : Int) := by
  have e : Builtin.Range.rangeSize a b 1 = ((b - a).toNat : Int) := by
    unfold Builtin.Range.rangeSize
    rw [if_pos (by decide)]
    split <;> omega
  refine ⟨?_, e⟩
  unfold Builtin.Range.small
  rw [e, fitsL (by omega) (by omega), fitsL (by omega) (by omega), fitsL (by omega) (by omega), fitsL (by omega) (by omega), if_pos (by decide), fitsL (by omega) (by omega)]
  simp
theorem codes_tr {b : List Int} {m : Nat} (hb : b.length = 2 * m) (hm : m ≤ 1000) (hr : ∀ q ∈ rangesOf b, 0 ≤ q.1 ∧ q.1 ≤ 1114112 ∧ -1 ≤ q.2 ∧ q.2 ≤ 1114112) (hl : (codesOf (rangesOf b)).length ≤ 5000) : Body w p (n + 2) (topAt 12) true ["code_set", "found", "first", "last"] [CS b] 3 true (.ints (codesOf (rangesOf b))) := by
  refine .andThen (ρ' := [fz (CS b), ow (.ints []), none, none]) (.set 1 (Rhs.newList (.list .nil) rfl)) ?_
  refine .cons (Tr1.for (ds := (rangesOf b).map gp) (fun j ρ => ∃ x y, ρ = [fz (CS b), ow (.ints (codesOf ((rangesOf b).take j))), x, y]) (.list (evM (.nm 0) hb hm)) ⟨none, none, rfl⟩ ?_) ?_
  · rintro j d ρ hd ⟨x, y, rfl⟩
    rw [List.getElem?_map, Option.map_eq_some_iff] at hd
    obtain ⟨⟨a, z⟩, hc, rfl⟩ := hd
    have hmem := List.mem_of_getElem? hc
    obtain ⟨q1, q2, q3, q4⟩ := hr _ hmem
    have htake : codesOf ((rangesOf b).take (j + 1)) = codesOf ((rangesOf b).take j) ++ runI (a, z) := by
      unfold codesOf
      rw [List.take_add_one, hc, List.flatMap_append]; simp
    have hlen : (codesOf ((rangesOf b).take (j + 1))).length ≤ 5000 := by
      refine Nat.le_trans ?_ hl
      unfold codesOf
      conv => rhs; rw [← List.take_append_drop (j + 1) (rangesOf b), List.flatMap_append, List.length_append]
      omega
    rw [htake, List.length_append] at hlen
    obtain ⟨r1, r2⟩ := unitRange (a := a) (b := z + 1) (by omega) (by omega) (by omega) (by omega) (by omega)
    have hsz : (runI (a, z)).length = (z + 1 - a).toNat := by simp [runI, rInts]
    refine ⟨_, .tuple [⟨2, _, _⟩, ⟨3, _, _⟩] rfl (by simp; exact ⟨⟨rfl, .inl rfl⟩, rfl, .inl rfl⟩), ?_⟩
    show Tr _ _ _ _ _ _ _ [fz (CS b), ow (.ints (codesOf ((rangesOf b).take j))), fz (.int a), fz (.int z)] _ _ _
    refine .cons (.ext 1 (ds := (codesOf ((rangesOf b).take j)).map .int) (es := (runI (a, z)).map .int) (callT (.cons (callT (fr := false) (.cons (.nm 2) (.cons (.add (.nm 3) .int) .nil)) ctr_range2) .nil) (ctr_list_range r1 r2 (by omega))) (by rw [List.length_map, List.length_map]; omega)) ?_
    rintro ρ' rfl
    refine .nil ⟨fz (.int a), fz (.int z), ?_⟩
    rw [htake]
    show [_, _, _, _] = [_, _, _, _]
    unfold V.ints
    rw [List.map_append]
  · rintro ρ ⟨x, y, rfl⟩
    rw [List.length_map, List.take_length]
    exact .retOwn 1 ⟨rfl, fun h => h⟩
theorem ctr_codes {b : List Int} {m : Nat} (hb : b.length = 2 * m) (hm : m ≤ 1000) (hr : ∀ q ∈ rangesOf b, 0 ≤ q.1 ∧ q.1 ≤ 1114112 ∧ -1 ≤ q.2 ∧ q.2 ≤ 1114112) (hl : (codesOf (rangesOf b)).length ≤ 5000) : Ctr (KK w) p w (n + 3) (.ref 166) [CS b] true (.ints (codesOf (rangesOf b))) :=
  ctrB ["found", "first", "last"] D_codes S_codes (codes_tr hb hm hr hl)
end Mine

-- Q9
namespace Mine
variable {K : Frag} {p : Program} {w : World} {n : Nat} {sc : Scope} {cm : Bool} {xs : List Str}

/-! range_are_like -/
theorem Evs.bty {ρ : List (Option V)} {x : Str} {T : String} {pos : Pos} (e : nsIn (KK w) mainGlobals x = some none := by kernel_rfl) (hb : bootBuiltins x = some (.type T) := by kernel_rfl) (hk : sc.names.lookup x = some .globalImplicit := by rfl) (h1 : (x == ("__debug__" : Str)) = false := by rfl) (hn : x ≠ "__name__" := by decide +kernel) : Evs (KK w) p w n sc xs ρ (.Name x pos) false (.ty T) :=
  fun A E s X env Q r eo wd lv va po => eval_bname eo wd hk e hb hn h1 (po.now s.toks (.ty _))
theorem like_tr {a b : V} {e : Bool} (he : CmpIs (KK w) p w (n + 1) .Eq a b e) (ia : Ctr (KK w) p w (n + 1) (.builtin "isinstance") [a, .ty "bool"] false (.bool a.isBool)) (ib : Ctr (KK w) p w (n + 1) (.builtin "isinstance") [b, .ty "bool"] false (.bool b.isBool)) :
    Body w p (n + 1) (topAt 19) true ["one", "other"] [a, b] 0 false (.bool (e && (a.isBool == b.isBool))) :=
  .ret (fr := false) (.and2 (.cmp he (.nm 0) (.nm 1)) fun _ => .cmp cmp_eqBool (callB (.cons (.nm 0) (.cons .bty .nil)) ia) (callB (.cons (.nm 1) (.cons .bty .nil)) ib)) ⟨rfl, fun h => h⟩
theorem ctr_like0 {a b : V} {e : Bool} (he : CmpIs (KK w) p w (n + 1) .Eq a b e) (ia : Ctr (KK w) p w (n + 1) (.builtin "isinstance") [a, .ty "bool"] false (.bool a.isBool)) (ib : Ctr (KK w) p w (n + 1) (.builtin "isinstance") [b, .ty "bool"] false (.bool b.isBool)) :
    Ctr (KK w) p w (n + 2) (.ref 215) [a, b] false (.bool (e && (a.isBool == b.isBool))) := ctrB [] D_are_like S_are_like (like_tr he ia ib)
/-- the values of the maps: ints and bools -/
inductive Val where
  | int (i : Int)
  | bool (b : Bool)
  deriving DecidableEq
noncomputable def Val.v : Val → V
  | .int i => .int i
  | .bool b => .bool b
theorem Val.flat (a : Val) : a.v.flat = true := by cases a <;> rfl
theorem Val.plain (a : Val) : a.v.plain = true := by cases a <;> rfl
theorem Val.depth (a : Val) : a.v.py.depth ≤ 0 := by cases a <;> exact Nat.le_refl _
theorem Val.tup (a : Val) : a.v.tup = true := by cases a <;> rfl
theorem Val.like (a b : Val) : (a.v.eqv b.v && (a.v.isBool == b.v.isBool)) = decide (a = b) := by
  cases a with
  | int i =>
    cases b with
    | int j =>
      show ((i == j) && true) = _
      by_cases q : i = j <;> simp [q]
    | bool c =>
      show (_ && false) = _
      simp
  | bool c =>
    cases b with
    | int j =>
      show (_ && false) = _
      simp
    | bool d =>
      show ((c == d) && true) = _
      cases c <;> cases d <;> rfl
theorem ctr_like {a b : Val} : Ctr (KK w) p w (n + 2) (.ref 215) [a.v, b.v] false (.bool (decide (a = b))) := by
  have := ctr_like0 (p := p) (w := w) (n := n) (a := a.v) (b := b.v) (cmp_eq a.plain b.plain (Nat.le_trans a.depth (by decide))) (ctr_isBool a.flat) (ctr_isBool b.flat)
  rw [Val.like] at this
  exact this
end Mine

-- Q10
namespace Mine
variable {K : Frag} {p : Program} {w : World} {n : Nat} {sc : Scope} {cm : Bool} {xs : List Str}

/-! slices -/
theorem filterMap_range {α : Type} (ds : List α) (a c : Nat) (h : a + c ≤ ds.length) : ((List.range c).map (a + ·)).filterMap (ds[·]?) = (ds.drop a).take c := by
  induction c generalizing a with
  | zero => simp
  | succ c ih =>
    rw [List.range_succ_eq_map, List.map_cons, List.filterMap_cons]
    have : ds[a + 0]? = some ds[a] := by rw [Nat.add_zero]; exact List.getElem?_eq_getElem (by omega)
    rw [this]
    simp only
    rw [List.drop_eq_getElem_cons (by omega : a < ds.length), List.take_succ_cons]
    congr 1
    rw [List.map_map, ← ih (a + 1) (by omega)]
    congr 1
    refine List.map_congr_left fun k _ => ?_
    show a + (k + 1) = a + 1 + k
    omega
theorem pick_plain (ds : List V) (lo hi : Option Int) {a b : Nat} (h : sliceBounds lo hi none ds.length = ((a : Int), (b : Int), 1)) (hb : b ≤ ds.length) : pickV ds lo hi none = (ds.drop a).take (b - a) := by
  unfold pickV
  rw [h]
  show (sliceRange a b 1).filterMap _ = _
  rw [sliceRange_one]
  by_cases q : a ≤ b
  · exact filterMap_range ds a (b - a) (by omega)
  · rw [show b - a = 0 by omega]; simp
theorem pick_take (ds : List V) (k : Nat) (h : k ≤ ds.length) : pickV ds none (some (k : Int)) none = ds.take k := by
  rw [pick_plain (a := 0) (b := k) ds none (some (k : Int)) (by rw [sliceBounds_plain]; unfold clipAt; simp; omega) h]
  simp
theorem pick_drop (ds : List V) (k : Nat) (h : k ≤ ds.length) : pickV ds (some (k : Int)) none none = ds.drop k := by
  rw [pick_plain (a := k) (b := ds.length) ds (some (k : Int)) none (by rw [sliceBounds_plain]; unfold clipAt; simp; omega) (Nat.le_refl _)]
  rw [List.take_of_length_le (by simp)]
end Mine

-- Q11
namespace Mine
variable {K : Frag} {p : Program} {w : World} {n : Nat} {sc : Scope} {cm : Bool} {xs : List Str}

/-- which stores are swapped: the scope alone tells -/
noncomputable def envS (sc : Scope) : Env := newEnv sc 0 0 [] "" none .none none 0
theorem sw_scope (ts : List Expr) (v : Expr) (env : Env) : swappedStores ts v env = swappedStores ts v (envS env.scope) := rfl
theorem sw_of {env : Env} {ts : List Expr} {v : Expr} {r : Option (List Str)} (eo : EnvOk sc env) (h : swappedStores ts v (envS sc) = pure r) : swappedStores ts v env = pure r := by rw [sw_scope, eo.sco]; exact h
theorem Rhs.freeze {ρ : List Ent} {e : Expr} {d : V} (h : Rhs K p w n sc cm xs ρ e true d) : Rhs K p w n sc cm xs ρ e false d :=
  fun A E s KP Y env sl ρt oa Q r eo kp nm pre S q => h A E s KP Y env sl ρt oa Q r eo kp nm pre S fun v oa' h' tk l S' => q v oa' h' tk l (by
    have hl : ρt.length = sl.length := S.dom
    have := S'.sub (ρ' := ρt ++ [some (false, d)]) (m := (sl ++ [Slot.val v]).length) ⟨by simp, fun k o d' z => ?_⟩ (by simp [hl])
    · rw [List.take_length] at this
      exact this
    · rw [List.getElem?_append] at z ⊢
      split at z
      · rename_i hk
        rw [if_pos hk]; exact .inl z
      · rename_i hk
        rw [if_neg hk]
        rw [List.getElem?_singleton] at z ⊢
        split at z
        · cases z; exact .inr ⟨rfl, by simp_all⟩
        · exact nn z)

/-! RangeMap -/
noncomputable def RM (d : V) (st : List Int) (vs : List V) : V := .inst none 258 [("default", d), ("starts", .ints st), ("values", .list vs)]
theorem S_minit : (fdAt (KK w) 229).scope = scopeOf (inCls 20 0) := by kernel_rfl
theorem noCells {sc : Scope} (h : (sc.names.all fun y => y.2 != .cell) = true) : ∀ y ∈ sc.names, y.2 ≠ .cell := fun y hy => by
  have := List.all_eq_true.mp h y hy
  simpa using this
theorem bind4 {fd : FuncData} {x y z u : Str} (h : ∀ a b c d, bindArgs fd ⟨[a, b, c, d], []⟩ = pure [(x, a), (y, b), (z, c), (u, d)]) (vs : List Value) (e : vs.length = [x, y, z, u].length) : bindArgs fd ⟨vs, []⟩ = pure ([x, y, z, u].zip vs) :=
  match vs, e with
  | [a, b, c, d], _ => h a b c d
theorem M_minit : MetOk (KK w) 229 (fdAt (KK w) 229) ["self", "default"] (bodyOf (inCls 20 0)) :=
  ⟨lk_of (by kernel_rfl), by kernel_rfl, by kernel_rfl, by kernel_rfl, by kernel_rfl, by kernel_rfl, by kernel_rfl, by kernel_rfl, by kernel_rfl, noCells (by kernel_rfl), by kernel_rfl, fun s vs X h => BindsTo.of_eq (bind2 (fun a b => by kernel_rfl) vs h)⟩
theorem S_put : (fdAt (KK w) 243).scope = scopeOf (inCls 20 2) := by kernel_rfl
theorem M_put : MetOk (KK w) 243 (fdAt (KK w) 243) ["self", "first", "last", "value"] (bodyOf (inCls 20 2)) :=
  ⟨lk_of (by kernel_rfl), by kernel_rfl, by kernel_rfl, by kernel_rfl, by kernel_rfl, by kernel_rfl, by kernel_rfl, by kernel_rfl, by kernel_rfl, noCells (by kernel_rfl), by kernel_rfl, fun s vs X h => BindsTo.of_eq (bind4 (fun a b c d => by kernel_rfl) vs h)⟩
theorem ctr_RangeMap {d : V} : Ctr (KK w) p w (n + 2) (.ref 258) [d] true (RM d [0] [d]) := by
  refine ctr_make (fI := 229) (by kernel_rfl) (by kernel_rfl) (by kernel_rfl) (ctrOB [] (cm := true) M_minit S_minit fun id => ?_)
  refine .cons (Tr1.setAttr (i := 0) (d := d) (.hid (fr := false) (.nm 1)) rfl rfl (by kernel_rfl) (Nat.le_of_ble_eq_true rfl)) ?_
  rintro ρ rfl
  refine .cons (Tr1.setAttr (i := 0) (d := .ints [0]) (.hid (fr := false) (.list (ds := [.int 0]) (.cons .int .nil))) rfl rfl (by kernel_rfl) (Nat.le_of_ble_eq_true rfl)) ?_
  rintro ρ rfl
  refine .cons (Tr1.setAttr (i := 0) (d := .list [d]) (.hid (fr := false) (.list (ds := [d]) (.cons (.nm 1) .nil))) rfl rfl (by kernel_rfl) (Nat.le_of_ble_eq_true rfl)) ?_
  rintro ρ rfl
  exact .nil rfl
end Mine

-- Q12
namespace Mine
variable {K : Frag} {p : Program} {w : World} {n : Nat} {sc : Scope} {cm : Bool} {xs : List Str}

noncomputable def vals (l : List Val) : V := .list (l.map Val.v)
noncomputable def fldM (d : V) (st : List Int) (vs : List Val) : List (Str × V) := [("default", d), ("starts", .ints st), ("values", vals vs)]
noncomputable abbrev zv : Val := .int 0
noncomputable def putLow (first : Int) (st : List Int) : Nat := cnt st (first - 1)
noncomputable def putHigh (last : Int) (st : List Int) : Nat := cnt st (last + 1)
noncomputable def putBehind (last : Int) (st : List Int) (vs : List Val) : Val := vs.getD (putHigh last st - 1) zv
noncomputable def putMore (last : Int) (value : Val) (st : List Int) (vs : List Val) : Bool := decide (last < 1114111) && !decide (putBehind last st vs = value)
noncomputable def putJoin (first : Int) (value : Val) (st : List Int) (vs : List Val) : Bool := decide (0 < putLow first st) && decide (vs.getD (putLow first st - 1) zv = value)
noncomputable def putSt (first last : Int) (value : Val) (st : List Int) (vs : List Val) : List Int :=
  if first > last then st else
  let s1 := if putMore last value st vs then [first, last + 1] else [first]
  st.take (putLow first st) ++ (if putJoin first value st vs then s1.drop 1 else s1) ++ st.drop (putHigh last st)
noncomputable def putVs (first last : Int) (value : Val) (st : List Int) (vs : List Val) : List Val :=
  if first > last then vs else
  let v1 := if putMore last value st vs then [value, putBehind last st vs] else [value]
  vs.take (putLow first st) ++ (if putJoin first value st vs then v1.drop 1 else v1) ++ vs.drop (putHigh last st)
theorem vItem {l : List Val} {i : Nat} (h : i < l.length) : (l.map Val.v)[((i : Nat) : Int).toNat]? = some (l.getD i zv).v := by
  rw [Int.toNat_natCast, List.getElem?_map, List.getD_eq_getElem?_getD, List.getElem?_eq_getElem h]; rfl
theorem tups_ints : ∀ l : List Int, V.tups (l.map .int) = true
  | [] => rfl
  | _ :: l => tups_ints l
theorem tups_vals : ∀ l : List Val, V.tups (l.map Val.v) = true
  | [] => rfl
  | a :: l => by
    show (a.v.tup && V.tups (l.map Val.v)) = true
    rw [a.tup, tups_vals l]; rfl
noncomputable abbrev pNames : List Str := ["self", "first", "last", "value", "low", "high", "behind", "starts", "values"]
theorem ctrO_put {d : V} {first last : Int} {value : Val} {st : List Int} {vs : List Val} (ha : Asc st) (h0 : st[0]? = some 0) (hl : vs.length = st.length) (hz : st.length ≤ 500) (hf : 0 ≤ first) : CtrO (KK w) p w (n + 4) (.ref 243) 258 (fldM d st vs) [.int first, .int last, value.v] (fldM d (putSt first last value st vs) (putVs first last value st vs)) := by
  refine ctrOB ["low", "high", "behind", "starts", "values"] (cm := true) (xs := pNames) M_put S_put fun id => ?_
  let S : V := .inst (some id) 258 (fldM d st vs)
  have lowle : putLow first st ≤ st.length := cnt_le ..
  have highle : putHigh last st ≤ st.length := cnt_le ..
  by_cases hfl : first > last
  · refine .cons (Φ₁ := fun _ => False) (Tr1.ife (b := true) (.cast (.cmp cmp_gt (.nm 1) (.nm 2)) (by simp [hfl])) (fun _ => .cons (Φ₁ := fun _ => False) (Tr1.retN ⟨rfl, ?_⟩) fun _ h => h.elim) fun h => by exact ff h.symm) fun _ h => h.elim
    show some (some (true, V.inst (some id) 258 (fldM d st vs))) = some _
    unfold putSt putVs
    rw [if_pos hfl, if_pos hfl]
  have high0 : 0 < putHigh last st := by
    have := (cnt_spec ha (last + 1) h0).mp (by omega)
    exact this
  refine .cons (Φ₁ := (· = [ow S, fz (.int first), fz (.int last), fz value.v, none, none, none, none, none])) (Tr1.ife (b := false) (.cast (.cmp cmp_gt (.nm 1) (.nm 2)) (by simp [hfl])) (fun h => by exact ff h) fun _ => .nil rfl) ?_
  rintro ρ rfl
  refine .andThen (ρ' := [ow S, fz (.int first), fz (.int last), fz value.v, fz (.int (putLow first st : Nat)), none, none, none, none]) (.set 4 (.tup (fr := false) (.cast (.add (callG (.cons (.attr (.nm 0) rfl (by kernel_rfl)) (.cons (.sub (.nm 1) .int) .nil)) (ctr_place ha (by omega))) .int) (by unfold putLow; simp)) rfl)) ?_
  refine .andThen (ρ' := [ow S, fz (.int first), fz (.int last), fz value.v, fz (.int (putLow first st : Nat)), fz (.int (putHigh last st : Nat)), none, none, none]) (.set 5 (.tup (fr := false) (.cast (.add (callG (.cons (.attr (.nm 0) rfl (by kernel_rfl)) (.cons (.add (.nm 2) .int) .nil)) (ctr_place ha (by omega))) .int) (by unfold putHigh; simp)) rfl)) ?_
  have gb : (vs.map Val.v)[((putHigh last st : Int) - 1).toNat]? = some (putBehind last st vs).v := by
    rw [show ((putHigh last st : Int) - 1) = ((putHigh last st - 1 : Nat) : Int) by omega]
    exact vItem (by omega)
  refine .andThen (ρ' := [ow S, fz (.int first), fz (.int last), fz value.v, fz (.int (putLow first st : Nat)), fz (.int (putHigh last st : Nat)), fz (putBehind last st vs).v, none, none]) (.set 6 (.tup (.item (.attr (.nm 0) rfl (by kernel_rfl)) (.sub (.nm 5) .int) (by omega) (by omega) gb) (Val.tup _))) ?_
  refine .andThen (ρ' := [ow S, fz (.int first), fz (.int last), fz value.v, fz (.int (putLow first st : Nat)), fz (.int (putHigh last st : Nat)), fz (putBehind last st vs).v, ow (.ints [first]), ow (vals [value])])
    (Tr1.asgSwap [⟨7, _, _⟩, ⟨8, _, _⟩] (l := [(true, .list [.int first]), (true, .list [value.v])]) (.cons (Rhs.newList (.list (.cons (.nm 1) .nil)) rfl) (.cons (Rhs.newList (.list (.cons (.nm 3) .nil)) (tups_vals [value])) .nil)) rfl (by simp [sizeLine_eq]) (by simp; exact ⟨⟨rfl, rfl⟩, rfl, rfl⟩) (fun env eo => sw_of eo (by rfl))) ?_
  obtain ⟨s1, hs1⟩ : ∃ s1, s1 = if putMore last value st vs then [first, last + 1] else [first] := ⟨_, rfl⟩
  obtain ⟨v1, hv1⟩ : ∃ v1, v1 = if putMore last value st vs then [value, putBehind last st vs] else [value] := ⟨_, rfl⟩
  have ls1 : s1.length ≤ 2 := by rw [hs1]; split <;> simp
  have lv1 : v1.length ≤ 2 := by rw [hv1]; split <;> simp
  have ls1' : 1 ≤ s1.length := by rw [hs1]; split <;> simp
  have lv1' : 1 ≤ v1.length := by rw [hv1]; split <;> simp
  refine .cons (Φ₁ := (· = [ow S, fz (.int first), fz (.int last), fz value.v, fz (.int (putLow first st : Nat)), fz (.int (putHigh last st : Nat)), fz (putBehind last st vs).v, ow (.ints s1), ow (vals v1)]))
    (Tr1.ife (b := putMore last value st vs) (.cast (.and (.c (.cmp cmp_lt (.nm 2) (.gint (i := 1114111))) fun _ => .c (.not (.val (callG (.cons (.nm 6) (.cons (.nm 3) .nil)) ctr_like))) fun _ => .nil)) (by unfold putMore; simp)) (fun q => ?_) fun q => .nil (by rw [hs1, hv1, q]; rfl)) ?_
  · refine .cons (.app 7 (ds := [.int first]) (.tup (.add (.nm 2) .int) rfl) (by simp)) ?_
    rintro ρ rfl
    refine .cons (.app 8 (ds := [value.v]) (.tup (.nm 6) (Val.tup _)) (by simp)) ?_
    rintro ρ rfl
    exact .nil (by rw [hs1, hv1, q]; rfl)
  rintro ρ rfl
  obtain ⟨s2, hs2⟩ : ∃ s2, s2 = if putJoin first value st vs then s1.drop 1 else s1 := ⟨_, rfl⟩
  obtain ⟨v2, hv2⟩ : ∃ v2, v2 = if putJoin first value st vs then v1.drop 1 else v1 := ⟨_, rfl⟩
  have ls2 : s2.length ≤ 2 := by rw [hs2]; split <;> (try rw [List.length_drop]) <;> omega
  have lv2 : v2.length ≤ 2 := by rw [hv2]; split <;> (try rw [List.length_drop]) <;> omega
  have p1 : pickV (s1.map .int) (some 1) none none = (s1.drop 1).map .int := by
    rw [List.map_drop]; exact pick_drop _ 1 (by simp; omega)
  have p2 : pickV (v1.map Val.v) (some 1) none none = (v1.drop 1).map Val.v := by
    rw [List.map_drop]; exact pick_drop _ 1 (by simp; omega)
  refine .cons (Φ₁ := (· = [ow S, fz (.int first), fz (.int last), fz value.v, fz (.int (putLow first st : Nat)), fz (.int (putHigh last st : Nat)), fz (putBehind last st vs).v, ow (.ints s2), ow (vals v2)]))
    (Tr1.ife (b := putJoin first value st vs) (.cast (.and (.c (.cmp cmp_gt (.nm 4) .int) fun q => .c (.val (callG (.cons (.item (.attr (.nm 0) rfl (by kernel_rfl)) (.sub (.nm 4) .int) ?_ ?_ ?_) (.cons (.nm 3) .nil)) (ctr_like (a := vs.getD (putLow first st - 1) zv)))) fun _ => .nil)) (by unfold putJoin; simp)) (fun q => ?_) fun q => .nil (by rw [hs2, hv2, q]; rfl)) ?_
  · have := of_decide_eq_true q; omega
  · omega
  · have := of_decide_eq_true q
    rw [show ((putLow first st : Int) - 1) = ((putLow first st - 1 : Nat) : Int) by omega]
    exact vItem (by omega)
  · refine .cons (Tr1.asgSwap [⟨7, _, _⟩, ⟨8, _, _⟩] (l := [(true, .ints (s1.drop 1)), (true, vals (v1.drop 1))]) (.cons (Rhs.newList (.cast (.slice (.nm 7) (.some .int) .none .none (by simp) (by simp [sizeLine_eq]; omega)) (by rw [p1])) (tups_ints _)) (.cons (Rhs.newList (.cast (.slice (.nm 8) (.some .int) .none .none (by simp) (by simp [sizeLine_eq]; omega)) (by rw [p2])) (tups_vals _)) .nil)) rfl (by simp [sizeLine_eq]) (by simp; exact ⟨⟨rfl, rfl⟩, rfl, rfl⟩) (fun env eo => sw_of eo (by rfl))) ?_
    rintro ρ rfl
    exact .nil (by rw [hs2, hv2, q]; rfl)
  rintro ρ rfl
  have q1 : pickV (st.map .int) none (some (putLow first st : Nat)) none = (st.take (putLow first st)).map .int := by
    rw [List.map_take]; exact pick_take _ _ (by simp; omega)
  have q2 : pickV (st.map .int) (some (putHigh last st : Nat)) none none = (st.drop (putHigh last st)).map .int := by
    rw [List.map_drop]; exact pick_drop _ _ (by simp; omega)
  have q3 : pickV (vs.map Val.v) none (some (putLow first st : Nat)) none = (vs.take (putLow first st)).map Val.v := by
    rw [List.map_take]; exact pick_take _ _ (by simp; omega)
  have q4 : pickV (vs.map Val.v) (some (putHigh last st : Nat)) none none = (vs.drop (putHigh last st)).map Val.v := by
    rw [List.map_drop]; exact pick_drop _ _ (by simp; omega)
  refine .cons (Tr1.setAttr (i := 0) (d := .ints (st.take (putLow first st) ++ s2 ++ st.drop (putHigh last st))) (.freeze (Rhs.newList (.cast (.addLists (fr := true) (.weak (.addLists (fr := true) (.weak (.slice (fr := true) (.attr (.nm 0) rfl (by kernel_rfl)) .none (.some (.nm 4)) .none (by simp) (by simp [sizeLine_eq]; omega))) (.nm 7) ?_)) (.weak (.slice (fr := true) (.attr (.nm 0) rfl (by kernel_rfl)) (.some (.nm 5)) .none .none (by simp) (by simp [sizeLine_eq]; omega))) ?_) ?_) (tups_ints _))) rfl rfl (by kernel_rfl) (Nat.le_of_ble_eq_true rfl)) ?_
  · rw [q1]; simp [sizeLine_eq]; omega
  · rw [q1, q2]; simp [sizeLine_eq]; omega
  · rw [q1, q2]; simp
  rintro ρ rfl
  refine .cons (Tr1.setAttr (i := 0) (d := vals (vs.take (putLow first st) ++ v2 ++ vs.drop (putHigh last st))) (.freeze (Rhs.newList (.cast (.addLists (fr := true) (.weak (.addLists (fr := true) (.weak (.slice (fr := true) (.attr (.nm 0) rfl (by kernel_rfl)) .none (.some (.nm 4)) .none (by simp) (by simp [sizeLine_eq]; omega))) (.nm 8) ?_)) (.weak (.slice (fr := true) (.attr (.nm 0) rfl (by kernel_rfl)) (.some (.nm 5)) .none .none (by simp) (by simp [sizeLine_eq]; omega))) ?_) ?_) (tups_vals _))) rfl rfl (by kernel_rfl) (Nat.le_of_ble_eq_true rfl)) ?_
  · rw [q3]; simp [sizeLine_eq]; omega
  · rw [q3, q4]; simp [sizeLine_eq]; omega
  · rw [q3, q4]; simp
  rintro ρ rfl
  refine .nil ?_
  show some (some (true, V.inst (some id) 258 (fldM d (st.take (putLow first st) ++ s2 ++ st.drop (putHigh last st)) (vs.take (putLow first st) ++ v2 ++ vs.drop (putHigh last st))))) = _
  unfold putSt putVs
  rw [if_neg hfl, if_neg hfl, hs2, hv2, hs1, hv1]
end Mine

-- Q13
namespace Mine
variable {K : Frag} {p : Program} {w : World} {n : Nat} {sc : Scope} {cm : Bool} {xs : List Str}

/-! range_rows -/
noncomputable def lastOf (st : List Int) (k : Nat) : Int := if k + 1 < st.length then st.getD (k + 1) 0 - 1 else 1114111
noncomputable def rowsG {α : Type} (st : List Int) : Nat → List α → List (Int × Int × α)
  | _, [] => []
  | k, v :: vs => (st.getD k 0, lastOf st k, v) :: rowsG st (k + 1) vs
noncomputable def rowsOf {α : Type} (st : List Int) (vs : List α) : List (Int × Int × α) := rowsG st 0 vs
noncomputable def tV {α : Type} (gv : α → V) (q : Int × Int × α) : V := .tuple [.int q.1, .int q.2.1, gv q.2.2]
theorem rowsG_length {α : Type} (st : List Int) : ∀ (k : Nat) (vs : List α), (rowsG st k vs).length = vs.length
  | _, [] => rfl
  | k, v :: vs => by rw [rowsG, List.length_cons, List.length_cons, rowsG_length st (k + 1) vs]
theorem rowsG_get {α : Type} (st : List Int) : ∀ (k : Nat) (vs : List α) (j : Nat) (v : α), vs[j]? = some v → (rowsG st k vs)[j]? = some (st.getD (k + j) 0, lastOf st (k + j), v)
  | _, [], _, _, h => by simp at h
  | k, a :: vs, 0, v, h => by simp at h; subst h; rfl
  | k, a :: vs, j + 1, v, h => by
    have := rowsG_get st (k + 1) vs j v (by simpa using h)
    rw [show k + (j + 1) = k + 1 + j by omega]
    simpa [rowsG] using this
theorem rowsOf_length {α : Type} (st : List Int) (vs : List α) : (rowsOf st vs).length = vs.length := rowsG_length ..
theorem rows_tr {α : Type} (gv : α → V) {d : V} {st : List Int} {vs : List α} (hl : vs.length = st.length) (hz : st.length ≤ 1000) : Body w p n (topAt 21) true ["range_map", "starts", "found", "at", "value", "last"] [RM d st (vs.map gv)] 5 true (.list ((rowsOf st vs).map (tV gv))) := by
  refine .andThen (ρ' := [fz (RM d st (vs.map gv)), fz (.ints st), ow (.list []), none, none, none])
    (Tr1.asgSwap [⟨1, _, _⟩, ⟨2, _, _⟩] (l := [(false, .ints st), (true, .list [])]) (.cons (.hid (fr := false) (.attr (.nm 0) rfl (by kernel_rfl))) (.cons (Rhs.newList (.list .nil) rfl) .nil)) rfl (by simp [sizeLine_eq]) (by simp; exact ⟨⟨rfl, rfl⟩, rfl, rfl⟩) (fun env eo => sw_of eo (by rfl))) ?_
  refine .cons (Tr1.for (ds := ((vs.map gv).zipIdx).map fun q => .tuple [.int q.2, q.1]) (fun j ρ => ∃ x y z, ρ = [fz (RM d st (vs.map gv)), fz (.ints st), ow (.list (((rowsOf st vs).map (tV gv)).take j)), x, y, z]) (.enumerate (.attr (.nm 0) rfl (by kernel_rfl)) (by kernel_rfl)) ⟨none, none, none, rfl⟩ ?_) ?_
  · rintro j e ρ hd ⟨x, y, z, rfl⟩
    rw [List.getElem?_map, List.getElem?_zipIdx, List.getElem?_map] at hd
    obtain ⟨v, hv⟩ : ∃ v, vs[j]? = some v := by
      cases q : vs[j]? with
      | none => rw [q] at hd; simp at hd
      | some v => exact ⟨v, rfl⟩
    rw [hv] at hd
    simp at hd
    subst hd
    have hj : j < vs.length := (List.getElem?_eq_some_iff.mp hv).1
    refine ⟨_, .tuple [⟨3, _, _⟩, ⟨4, _, _⟩] rfl (by simp; exact ⟨⟨rfl, .inl rfl⟩, rfl, .inl rfl⟩), ?_⟩
    show Tr _ _ _ _ _ _ _ [fz (RM d st (vs.map gv)), fz (.ints st), ow (.list (((rowsOf st vs).map (tV gv)).take j)), fz (.int j), fz (gv v), z] _ _ _
    have l1 : (st.map V.int)[j]? = some (.int (st.getD j 0)) := mItem (by omega)
    refine .andThen (ρ' := [fz (RM d st (vs.map gv)), fz (.ints st), ow (.list (((rowsOf st vs).map (tV gv)).take j)), fz (.int j), fz (gv v), fz (.int (lastOf st j))])
      (.set 5 (.tup (fr := false) (.ite (b := decide (j + 1 < st.length)) (.cast (.cmp cmp_lt (.add (.nm 3) .int) (callB (fr := false) (.cons (.nm 1) .nil) (ctr_lenI (by omega)))) (by rw [decide_eq_decide]; omega)) (fun q => ?_) fun q => ?_) rfl)) ?_
    · have q := of_decide_eq_true q
      have l2 : (st.map V.int)[((j : Int) + 1).toNat]? = some (.int (st.getD (j + 1) 0)) := by
        rw [show ((j : Int) + 1).toNat = j + 1 by omega]; exact mItem q
      have e : lastOf st j = st.getD (j + 1) 0 - 1 := by unfold lastOf; rw [if_pos q]
      rw [e]
      exact .sub (.item (.nm 1) (.add (.nm 3) .int) (by omega) (by omega) l2) .int
    · have q := of_decide_eq_false q
      have e : lastOf st j = 1114111 := by unfold lastOf; rw [if_neg q]
      rw [e]
      exact .gint
    refine .cons (.app 2 (ds := ((rowsOf st vs).map (tV gv)).take j) (.hid (.tuple (.cons (.item (.nm 1) (.nm 3) (by omega) (by omega) l1) (.cons (.nm 5) (.cons (.nm 4) .nil))))) (by rw [List.length_take, List.length_map, rowsOf_length]; omega)) ?_
    rintro ρ rfl
    refine .nil ⟨fz (.int j), fz (gv v), fz (.int (lastOf st j)), ?_⟩
    have := rowsG_get st 0 vs j v hv
    rw [Nat.zero_add] at this
    have e : ((rowsOf st vs).map (tV gv)).take (j + 1) = ((rowsOf st vs).map (tV gv)).take j ++ [.tuple [.int (st.getD j 0), .int (lastOf st j), gv v]] := by
      rw [List.take_add_one, List.getElem?_map, show rowsOf st vs = rowsG st 0 vs from rfl, this]; rfl
    rw [e]; rfl
  · rintro ρ ⟨x, y, z, rfl⟩
    refine .retOwn 2 ⟨?_, fun _ => rfl⟩
    rw [List.take_of_length_le (by simp [rowsOf_length])]
theorem ctr_rows {α : Type} (gv : α → V) {d : V} {st : List Int} {vs : List α} (hl : vs.length = st.length) (hz : st.length ≤ 1000) : Ctr (KK w) p w (n + 1) (.ref 269) [RM d st (vs.map gv)] true (.list ((rowsOf st vs).map (tV gv))) :=
  ctrB ["starts", "found", "at", "value", "last"] D_rows S_rows (rows_tr gv hl hz)
end Mine

-- L1
namespace Mine

/-! plain: ascending lists, maps by their beginnings -/
theorem cnt_append (l m : List Int) (x : Int) : cnt (l ++ m) x = cnt l x + cnt m x := by unfold cnt; rw [List.countP_append]
theorem cnt_high {l : List Int} {x : Int} (h : ∀ a ∈ l, a ≤ x) : cnt l x = l.length := by
  unfold cnt
  rw [List.countP_eq_length]
  intro a ha
  simpa using h a ha
theorem Asc.ext : ∀ {l m : List Int}, Asc l → Asc m → (∀ a, a ∈ l ↔ a ∈ m) → l = m
  | [], [], _, _, _ => rfl
  | [], b :: m, _, _, h => by have := (h b).mpr (by simp); cases this
  | a :: l, [], _, _, h => by have := (h a).mp (by simp); cases this
  | a :: l, b :: m, hl, hm, h => by
    have hl' := List.pairwise_cons.mp hl
    have hm' := List.pairwise_cons.mp hm
    have e : a = b := by
      have h1 := (h a).mp (by simp)
      have h2 := (h b).mpr (by simp)
      rcases List.mem_cons.mp h1 with h1 | h1
      · exact h1
      · rcases List.mem_cons.mp h2 with h2 | h2
        · exact h2.symm
        · have := hl'.1 b h2
          have := hm'.1 a h1
          omega
    subst e
    rw [Asc.ext hl'.2 hm'.2 fun c => ?_]
    have := h c
    constructor
    · intro hc
      have k := hl'.1 c hc
      rcases List.mem_cons.mp (this.mp (List.mem_cons_of_mem _ hc)) with q | q
      · omega
      · exact q
    · intro hc
      have k := hm'.1 c hc
      rcases List.mem_cons.mp (this.mpr (List.mem_cons_of_mem _ hc)) with q | q
      · omega
      · exact q
theorem Asc.take {l : List Int} (h : Asc l) (k : Nat) : Asc (l.take k) := List.Pairwise.sublist (List.take_sublist k l) h
theorem Asc.drop {l : List Int} (h : Asc l) (k : Nat) : Asc (l.drop k) := List.Pairwise.sublist (List.drop_sublist k l) h
theorem take_le {l : List Int} (h : Asc l) (x : Int) : ∀ a ∈ l.take (cnt l x), a ≤ x := fun a ha => by
  obtain ⟨i, hi⟩ := List.getElem?_of_mem ha
  rw [List.getElem?_take] at hi
  split at hi
  · rename_i q
    exact (cnt_spec h x hi).mpr q
  · exact nn hi
theorem drop_gt {l : List Int} (h : Asc l) (x : Int) : ∀ a ∈ l.drop (cnt l x), x < a := fun a ha => by
  obtain ⟨i, hi⟩ := List.getElem?_of_mem ha
  rw [List.getElem?_drop] at hi
  have := cnt_spec h x hi
  by_cases q : a ≤ x
  · have := this.mp q; omega
  · omega
theorem cnt_mono {l : List Int} {x y : Int} (h : x ≤ y) : cnt l x ≤ cnt l y := by
  unfold cnt
  refine List.countP_mono_left fun a _ q => ?_
  simp at q ⊢; omega
/-- the count behind place k -/
theorem cnt_take_drop {l : List Int} (h : Asc l) (x y : Int) (hxy : y ≤ x) : cnt l x = cnt l y + cnt (l.drop (cnt l y)) x := by
  have e := cnt_append (l.take (cnt l y)) (l.drop (cnt l y)) x
  rw [List.take_append_drop] at e
  rw [e, cnt_high (fun a ha => Int.le_trans (take_le h y a ha) hxy), List.length_take, Nat.min_eq_left (cnt_le _ _)]
theorem cnt_take_low {l : List Int} (h : Asc l) (x y : Int) (hxy : x ≤ y) : cnt (l.take (cnt l y)) x = cnt l x := by
  have e := cnt_append (l.take (cnt l y)) (l.drop (cnt l y)) x
  rw [List.take_append_drop] at e
  rw [e, cnt_low (l := l.drop _) (fun a ha => by have := drop_gt h y a ha; omega)]
  rfl

section
variable {α : Type}
/-- the value of a code -/
noncomputable def mapAt (st : List Int) (vs : List α) (c : Int) : Option α := vs[cnt st c - 1]?
structure Canon (st : List Int) (vs : List α) : Prop where
  asc : Asc st
  zero : st[0]? = some 0
  len : vs.length = st.length
  top : ∀ a ∈ st, a ≤ 1114111
  diff : ∀ k, k + 1 < vs.length → vs[k]? ≠ vs[k + 1]?
theorem Canon.nonneg {st : List Int} {vs : List α} (C : Canon st vs) : ∀ a ∈ st, 0 ≤ a := fun a ha => by
  obtain ⟨i, hi⟩ := List.getElem?_of_mem ha
  by_cases q : a ≤ -1
  · have h0 := (cnt_spec C.asc (-1) hi).mp q
    have h1 := (cnt_spec C.asc (-1) (i := 0) C.zero).mpr (by omega)
    omega
  · omega
theorem Canon.pos {st : List Int} {vs : List α} (C : Canon st vs) {c : Int} (h : 0 ≤ c) : 0 < cnt st c := (cnt_spec C.asc c C.zero).mp h
theorem Canon.at {st : List Int} {vs : List α} (C : Canon st vs) {k : Nat} {a : Int} (h : st[k]? = some a) : mapAt st vs a = vs[k]? := by
  unfold mapAt
  have h1 := (cnt_spec C.asc a h).mp (Int.le_refl _)
  have h2 : ¬ k + 1 < cnt st a := fun q => by
    have hk : k + 1 < st.length := Nat.lt_of_lt_of_le q (cnt_le _ _)
    have h3 := (cnt_spec C.asc a (List.getElem?_eq_getElem hk)).mpr q
    obtain ⟨hk', e⟩ := List.getElem?_eq_some_iff.mp h
    have := List.pairwise_iff_getElem.mp C.asc k (k + 1) (by omega) hk (by omega)
    omega
  rw [show cnt st a - 1 = k by omega]
theorem Canon.mem {st : List Int} {vs : List α} (C : Canon st vs) (a : Int) : a ∈ st ↔ 0 ≤ a ∧ a ≤ 1114111 ∧ (a = 0 ∨ mapAt st vs a ≠ mapAt st vs (a - 1)) := by
  constructor
  · intro ha
    refine ⟨C.nonneg a ha, C.top a ha, ?_⟩
    by_cases q : a = 0
    · exact .inl q
    right
    obtain ⟨k, hk⟩ := List.getElem?_of_mem ha
    rw [C.at hk]
    have h1 := (cnt_spec C.asc a hk).mp (Int.le_refl _)
    have h2 : ¬ k < cnt st (a - 1) := fun z => by have := (cnt_spec C.asc (a - 1) hk).mpr z; omega
    cases k with
    | zero => rw [C.zero] at hk; cases hk; exact absurd rfl q
    | succ k =>
      have hk' : k + 1 < st.length := (List.getElem?_eq_some_iff.mp hk).1
      have h3 : k < cnt st (a - 1) := by
        have hg : st[k]? = some st[k] := List.getElem?_eq_getElem (by omega)
        refine (cnt_spec C.asc (a - 1) hg).mp ?_
        obtain ⟨_, e⟩ := List.getElem?_eq_some_iff.mp hk
        have := List.pairwise_iff_getElem.mp C.asc k (k + 1) (by omega) hk' (by omega)
        omega
      unfold mapAt
      rw [show cnt st (a - 1) - 1 = k by omega]
      exact fun z => C.diff k (by rw [C.len]; omega) z.symm
  · rintro ⟨h0, h1, h2⟩
    rcases h2 with rfl | h2
    · exact List.mem_of_getElem? C.zero
    · refine Decidable.byContradiction fun q => h2 ?_
      unfold mapAt
      have : cnt st a = cnt st (a - 1) := by
        unfold cnt
        refine List.countP_congr fun b hb => ?_
        have : b ≠ a := fun z => q (z ▸ hb)
        simp; omega
      rw [this]
theorem Canon.uniq {st st' : List Int} {vs vs' : List α} (C : Canon st vs) (D : Canon st' vs') (h : ∀ c, 0 ≤ c → c ≤ 1114111 → mapAt st vs c = mapAt st' vs' c) : st = st' ∧ vs = vs' := by
  have e : st = st' := by
    refine Asc.ext C.asc D.asc fun a => ?_
    rw [C.mem, D.mem]
    constructor
    · rintro ⟨a1, a2, a3⟩
      refine ⟨a1, a2, ?_⟩
      by_cases q : a = 0
      · exact .inl q
      · rw [← h a a1 a2, ← h (a - 1) (by omega) (by omega)]; exact a3
    · rintro ⟨a1, a2, a3⟩
      refine ⟨a1, a2, ?_⟩
      by_cases q : a = 0
      · exact .inl q
      · rw [h a a1 a2, h (a - 1) (by omega) (by omega)]; exact a3
  subst e
  refine ⟨rfl, List.ext_getElem? fun k => ?_⟩
  by_cases hk : k < st.length
  · have hg : st[k]? = some st[k] := List.getElem?_eq_getElem hk
    have hm := List.mem_of_getElem? hg
    rw [← C.at hg, ← D.at hg]
    exact h _ (C.nonneg _ hm) (C.top _ hm)
  · rw [List.getElem?_eq_none (by rw [C.len]; omega), List.getElem?_eq_none (by rw [D.len]; omega)]
end
end Mine

-- L2
namespace Mine

/-! plain: a stretch put into a map -/
section
variable {α : Type}
noncomputable def Dif (l : List α) : Prop := ∀ k, k + 1 < l.length → l[k]? ≠ l[k + 1]?
theorem Dif.take {l : List α} (h : Dif l) (m : Nat) : Dif (l.take m) := fun k hk => by
  rw [List.length_take] at hk
  rw [List.getElem?_take, List.getElem?_take, if_pos (by omega), if_pos (by omega)]
  exact h k (by omega)
theorem Dif.drop {l : List α} (h : Dif l) (m : Nat) : Dif (l.drop m) := fun k hk => by
  rw [List.length_drop] at hk
  rw [List.getElem?_drop, List.getElem?_drop]
  exact h (m + k) (by omega)
theorem Dif.append {l m : List α} (hl : Dif l) (hm : Dif m) (hj : ∀ a b, l[l.length - 1]? = some a → m[0]? = some b → a ≠ b) : Dif (l ++ m) := fun k hk => by
  rw [List.length_append] at hk
  rw [List.getElem?_append, List.getElem?_append]
  by_cases h1 : k + 1 < l.length
  · rw [if_pos (by omega), if_pos h1]; exact hl k h1
  · rw [if_neg h1]
    by_cases h2 : k < l.length
    · rw [if_pos h2, List.getElem?_eq_getElem h2, show k + 1 - l.length = 0 by omega, List.getElem?_eq_getElem (by omega : 0 < m.length)]
      intro q
      refine hj _ _ ?_ ?_ (Option.some.inj q)
      · rw [show l.length - 1 = k by omega]; exact List.getElem?_eq_getElem h2
      · exact List.getElem?_eq_getElem (by omega : 0 < m.length)
    · rw [if_neg h2, show k + 1 - l.length = k - l.length + 1 by omega]
      exact hm (k - l.length) (by omega)
theorem Dif.two {a b : α} (h : a ≠ b) : Dif [a, b] := fun k hk => by
  have : k = 0 := by simp at hk; omega
  subst this
  simpa using h
theorem Dif.one {a : α} : Dif [a] := fun k hk => by simp at hk
theorem Dif.nil : Dif ([] : List α) := fun k hk => by simp at hk
end
theorem asc_append {l m : List Int} (hl : Asc l) (hm : Asc m) (h : ∀ a ∈ l, ∀ b ∈ m, a < b) : Asc (l ++ m) := List.pairwise_append.mpr ⟨hl, hm, h⟩
theorem getD_some {vs : List Val} {i : Nat} (h : i < vs.length) : vs[i]? = some (vs.getD i zv) := by
  rw [List.getD_eq_getElem?_getD, List.getElem?_eq_getElem h]; rfl
section
variable {first last : Int} {value : Val} {st : List Int} {vs : List Val}
theorem Canon.put (C : Canon st vs) (h0 : 0 ≤ first) (h1 : last ≤ 1114111) : Canon (putSt first last value st vs) (putVs first last value st vs) ∧
    ∀ c, 0 ≤ c → c ≤ 1114111 → mapAt (putSt first last value st vs) (putVs first last value st vs) c = if first ≤ c ∧ c ≤ last then some value else mapAt st vs c := by
  by_cases hfl : first > last
  · unfold putSt putVs
    rw [if_pos hfl, if_pos hfl]
    refine ⟨C, fun c _ _ => ?_⟩
    rw [if_neg (by omega)]
  have hlen := C.len
  have lowle : putLow first st ≤ st.length := cnt_le ..
  have highle : putHigh last st ≤ st.length := cnt_le ..
  have high0 : 0 < putHigh last st := (cnt_spec C.asc (last + 1) C.zero).mp (by omega)
  have lohi : putLow first st ≤ putHigh last st := cnt_mono (by omega)
  have hb : vs[putHigh last st - 1]? = some (putBehind last st vs) := getD_some (by omega)
  have htop : last = 1114111 → putHigh last st = st.length := fun q => cnt_high fun a ha => by have := C.top a ha; omega
  have more : putMore last value st vs = true → last < 1114111 ∧ putBehind last st vs ≠ value := fun q => by
    unfold putMore at q; simpa using q
  have moreF : putMore last value st vs = false → last < 1114111 → putBehind last st vs = value := fun q q2 => by
    unfold putMore at q
    simp [q2] at q
    exact q
  have join : putJoin first value st vs = true → 0 < putLow first st ∧ vs[putLow first st - 1]? = some value := fun q => by
    unfold putJoin at q
    simp only [Bool.and_eq_true, decide_eq_true_eq] at q
    refine ⟨q.1, ?_⟩
    rw [getD_some (by omega), q.2]
  have joinF : putJoin first value st vs = false → 0 < putLow first st → vs[putLow first st - 1]? ≠ some value := fun q q2 => by
    unfold putJoin at q
    simp [q2] at q
    rw [getD_some (by omega)]
    simpa using q
  have low0 : putLow first st = 0 → first = 0 := fun q => by
    have : ¬ (0 : Int) ≤ first - 1 := fun z => by
      have := (cnt_spec C.asc (first - 1) C.zero).mp z
      unfold putLow at q; omega
    omega
  have tl : ∀ a ∈ st.take (putLow first st), a ≤ first - 1 := take_le C.asc (first - 1)
  have dg : ∀ a ∈ st.drop (putHigh last st), last + 1 < a := drop_gt C.asc (last + 1)
  have cHigh : ∀ c, last + 1 ≤ c → cnt st c = putHigh last st + cnt (st.drop (putHigh last st)) c := fun c hc => cnt_take_drop C.asc c (last + 1) hc
  have cLow : ∀ c, c ≤ first - 1 → cnt (st.take (putLow first st)) c = cnt st c := fun c hc => cnt_take_low C.asc c (first - 1) hc
  have dif : Dif vs := C.diff
  unfold putSt putVs
  rw [if_neg hfl, if_neg hfl]
  generalize putLow first st = lo at *
  generalize putHigh last st = hi at *
  generalize putBehind last st vs = be at *
  generalize putMore last value st vs = mo at *
  generalize putJoin first value st vs = jo at *
  obtain ⟨s2, hs2⟩ : ∃ s2, s2 = if jo then (if mo then [first, last + 1] else [first]).drop 1 else (if mo then [first, last + 1] else [first]) := ⟨_, rfl⟩
  obtain ⟨v2, hv2⟩ : ∃ v2, v2 = if jo then (if mo then [value, be] else [value]).drop 1 else (if mo then [value, be] else [value]) := ⟨_, rfl⟩
  dsimp only
  rw [← hs2, ← hv2]
  have ll : (vs.take lo).length = lo := by rw [List.length_take]; omega
  have ls : (st.take lo).length = lo := by rw [List.length_take]; omega
  have e2 : s2.length = v2.length := by rw [hs2, hv2]; cases jo <;> cases mo <;> rfl
  have ascS : Asc s2 := by
    rw [hs2]; unfold Asc
    cases jo <;> cases mo <;> simp
    omega
  have memS : ∀ a ∈ s2, first ≤ a ∧ a ≤ last + 1 ∧ (a = first ∨ (a = last + 1 ∧ last < 1114111)) := by
    rw [hs2]
    cases mo with
    | true =>
      have := (more rfl).1
      cases jo <;> simp <;> omega
    | false => cases jo <;> simp <;> omega
  have vl : 0 < v2.length → v2[v2.length - 1]? = some (if mo then be else value) := by
    rw [hv2]; cases jo <;> cases mo <;> simp
  have v0 : jo = false → v2[0]? = some value := by
    intro q; rw [hv2, q]; cases mo <;> simp
  have vz : v2 = [] → jo = true ∧ mo = false := by
    rw [hv2]; cases jo <;> cases mo <;> simp
  have last2 : 0 < hi → hi < vs.length → vs[hi]? ≠ some (if mo then be else value) := by
    intro _ q
    have d := dif (hi - 1) (by omega)
    rw [show hi - 1 + 1 = hi by omega, hb] at d
    cases mo with
    | true => exact fun z => d z.symm
    | false =>
      have : last < 1114111 := by
        refine Decidable.byContradiction fun z => ?_
        have := htop (by omega); omega
      rw [moreF rfl this] at d
      exact fun z => d z.symm
  constructor
  · refine ⟨?_, ?_, ?_, ?_, ?_⟩
    · refine asc_append (asc_append (C.asc.take _) ascS fun a ha b hb => ?_) (C.asc.drop _) fun a ha b hb => ?_
      · have := tl a ha; have := (memS b hb).1; omega
      · have hb := dg b hb
        rcases List.mem_append.mp ha with q | q
        · have := tl a q; omega
        · have := (memS a q).2.1; omega
    · by_cases q : lo = 0
      · have hj : jo = false := by
          cases jo with
          | false => rfl
          | true => have := (join rfl).1; omega
        subst q
        rw [hs2, hj, low0 rfl]
        cases mo <;> simp
      · rw [List.append_assoc, List.getElem?_append_left (by omega), List.getElem?_take, if_pos (by omega)]
        exact C.zero
    · simp only [List.length_append, List.length_take, List.length_drop]; omega
    · intro a ha
      rcases List.mem_append.mp ha with q | q
      · rcases List.mem_append.mp q with q | q
        · exact C.top a (List.mem_of_mem_take q)
        · have := memS a q; omega
      · exact C.top a (List.mem_of_mem_drop q)
    · refine Dif.append (Dif.append (dif.take _) ?_ ?_) (dif.drop _) ?_
      · rw [hv2]
        cases mo with
        | true =>
          cases jo with
          | true => exact Dif.one
          | false => exact Dif.two fun z => (more rfl).2 z.symm
        | false =>
          cases jo with
          | true => exact Dif.nil
          | false => exact Dif.one
      · intro a b ha hb2
        rw [ll] at ha
        by_cases q : lo = 0
        · subst q; simp at ha
        · rw [List.getElem?_take, if_pos (by omega)] at ha
          cases jo with
          | false =>
            rw [v0 rfl] at hb2
            cases hb2
            have := joinF rfl (by omega)
            rw [ha] at this
            exact fun z => this (z ▸ rfl)
          | true =>
            have e := (join rfl).2
            rw [ha] at e
            cases e
            rw [hv2] at hb2
            cases mo with
            | true => simp at hb2; subst hb2; exact fun z => (more rfl).2 z.symm
            | false => simp at hb2
      · intro a b ha hb2
        rw [List.getElem?_drop, Nat.add_zero] at hb2
        have hlt := (List.getElem?_eq_some_iff.mp hb2).1
        have key := last2 (by omega) hlt
        rw [hb2] at key
        have : a = if mo then be else value := by
          by_cases q : v2 = []
          · obtain ⟨q1, q2⟩ := vz q
            subst q1
            rw [q, List.append_nil, ll, List.getElem?_take, if_pos (by have := (join rfl).1; omega), (join rfl).2] at ha
            cases ha
            rw [q2]; rfl
          · have : 0 < v2.length := List.length_pos_iff.mpr q
            rw [List.length_append, List.getElem?_append_right (by omega), ll, show lo + v2.length - 1 - lo = v2.length - 1 by omega, vl this] at ha
            exact (Option.some.inj ha).symm
        rw [this]
        exact fun z => key (z ▸ rfl)
  · intro c hc0 hc1
    unfold mapAt
    rw [cnt_append, cnt_append]
    by_cases q1 : c < first
    · rw [if_neg (by omega), cLow c (by omega), cnt_low (l := s2) (fun a ha => by have := (memS a ha).1; omega), cnt_low (l := st.drop hi) (fun a ha => by have := dg a ha; omega)]
      have p := C.pos hc0
      have : cnt st c ≤ lo := by
        rw [← cLow c (by omega)]
        exact Nat.le_trans (cnt_le _ _) (by omega)
      simp only [Nat.add_zero]
      rw [List.append_assoc, List.getElem?_append_left (by omega), List.getElem?_take, if_pos (by omega)]
    · have hlo : cnt (st.take lo) c = lo := by rw [cnt_high (fun a ha => by have := tl a ha; omega), ls]
      rw [hlo]
      by_cases q2 : c ≤ last
      · rw [if_pos ⟨by omega, q2⟩, cnt_low (l := st.drop hi) (fun a ha => by have := dg a ha; omega)]
        cases jo with
        | true =>
          have : cnt s2 c = 0 := by
            refine cnt_low fun a ha => ?_
            rw [hs2] at ha
            cases mo <;> simp at ha
            omega
          rw [this]
          simp only [Nat.add_zero]
          rw [List.append_assoc, List.getElem?_append_left (by have := (join rfl).1; omega), List.getElem?_take, if_pos (by have := (join rfl).1; omega)]
          exact (join rfl).2
        | false =>
          have : cnt s2 c = 1 := by
            have g1 : cnt [first] c = 1 := cnt_high (l := [first]) (by simp; omega)
            have g2 : cnt [last + 1] c = 0 := cnt_low (l := [last + 1]) (by simp; omega)
            have g3 : cnt [first, last + 1] c = cnt [first] c + cnt [last + 1] c := cnt_append [first] [last + 1] c
            rw [hs2]
            cases mo
            · exact g1
            · exact g3.trans (by rw [g1, g2])
          rw [this]
          simp only [Nat.add_zero]
          rw [List.append_assoc, List.getElem?_append_right (by omega), ll, show lo + 1 - 1 - lo = 0 by omega, List.getElem?_append_left (by rw [← e2, hs2]; cases mo <;> simp)]
          exact v0 rfl
      · rw [if_neg (by omega)]
        have hs : cnt s2 c = v2.length := by rw [cnt_high (fun a ha => by have := (memS a ha).2.1; omega), e2]
        have hcc := cHigh c (by omega)
        rw [hs]
        by_cases q3 : cnt (st.drop hi) c = 0
        · rw [q3, hcc, q3, Nat.add_zero, Nat.add_zero, hb]
          have lt : last < 1114111 := by omega
          by_cases q : v2 = []
          · obtain ⟨j1, j2⟩ := vz q
            subst j1 j2
            rw [q, List.append_nil, List.length_nil, Nat.add_zero, List.getElem?_append_left (by have := (join rfl).1; omega), List.getElem?_take, if_pos (by have := (join rfl).1; omega), (join rfl).2, moreF rfl lt]
          · have h2 : 0 < v2.length := List.length_pos_iff.mpr q
            rw [List.getElem?_append_left (by rw [List.length_append]; omega), List.getElem?_append_right (by omega), ll, show lo + v2.length - 1 - lo = v2.length - 1 by omega, vl h2]
            cases mo with
            | true => rfl
            | false => rw [moreF rfl lt]; rfl
        · rw [List.getElem?_append_right (by rw [List.length_append]; omega), List.length_append, ll, List.getElem?_drop, hcc]
          congr 1
          omega
theorem putSt_length (first last : Int) (value : Val) (st : List Int) (vs : List Val) : (putSt first last value st vs).length ≤ st.length + 2 := by
  unfold putSt
  split
  · omega
  · have lohi : putLow first st ≤ putHigh last st := cnt_mono (by omega)
    have : putHigh last st ≤ st.length := cnt_le _ _
    simp only [List.length_append, List.length_take, List.length_drop]
    have : (if putJoin first value st vs then (if putMore last value st vs then [first, last + 1] else [first]).drop 1 else (if putMore last value st vs then [first, last + 1] else [first])).length ≤ 2 := by
      split <;> split <;> simp
    omega
end
end Mine

-- Q14
namespace Mine
variable {K : Frag} {p : Program} {w : World} {n : Nat} {sc : Scope} {cm : Bool} {xs : List Str}

/-! RangeMap.ranges, range_map_of, range_laid_over -/
theorem Val.sq (a : Val) : a.v.sq = true := by cases a <;> rfl
theorem sqs_ints : ∀ l : List Int, V.sqs (l.map .int) = true
  | [] => rfl
  | _ :: l => sqs_ints l
theorem sqs_vals : ∀ l : List Val, V.sqs (l.map Val.v) = true
  | [] => rfl
  | a :: l => by
    show (a.v.sq && V.sqs (l.map Val.v)) = true
    rw [a.sq, sqs_vals l]; rfl
/-- a map of ints and bools -/
noncomputable def RMv (d : Val) (st : List Int) (vs : List Val) : V := RM d.v st (vs.map Val.v)
noncomputable abbrev Row := Int × Int × Val
noncomputable def rowV (q : Row) : V := tV Val.v q
noncomputable def restOf (d : Val) (rows : List Row) : List Row := rows.filter fun q => !decide (q.2.2 = d)
theorem mranges_tr {d : Val} {st : List Int} {vs : List Val} (hl : vs.length = st.length) (hz : st.length ≤ 1000) : Body w p (n + 2) (inCls 20 3) true ["self"] [RMv d st vs] 0 true (.list ((restOf d (rowsOf st vs)).map rowV)) := by
  refine .retNew (.comp (as := rowsOf st vs) (gv := rowV) (pt := fun q => !decide (q.2.2 = d)) (f := rowV) [0] (.list (callG (.cons (.nm 0) .nil) (ctr_rows Val.v hl hz))) (by rw [rowsOf_length, sizeLine_eq]; omega) (fun q hq => ?_) (fun q hq _ => .nm 0)) ⟨rfl, fun h => h⟩
  show Evt _ _ _ _ _ _ _ _ _
  exact .not (.val (callG (.cons (.itemT (.nm 0) .int (by decide) (by decide) rfl) (.cons (.attr (.nm 1) rfl (by kernel_rfl)) .nil)) ctr_like))
theorem ctr_mranges {d : Val} {st : List Int} {vs : List Val} (hl : vs.length = st.length) (hz : st.length ≤ 1000) : Ctr (KK w) p w (n + 3) (.ref 248) [RMv d st vs] true (.list ((restOf d (rowsOf st vs)).map rowV)) :=
  ctrB [] D_mranges S_mranges (mranges_tr hl hz)
noncomputable def putAll : List Row → List Int × List Val → List Int × List Val
  | [], m => m
  | q :: r, m => putAll r (putSt q.1 q.2.1 q.2.2 m.1 m.2, putVs q.1 q.2.1 q.2.2 m.1 m.2)
noncomputable def RowsOk (rows : List Row) : Prop := ∀ q ∈ rows, 0 ≤ q.1 ∧ q.2.1 ≤ 1114111
theorem putAll_append : ∀ (a b : List Row) (m : List Int × List Val), putAll (a ++ b) m = putAll b (putAll a m)
  | [], _, _ => rfl
  | q :: a, b, m => putAll_append a b _
theorem putAll_canon : ∀ {rows : List Row} {m : List Int × List Val}, RowsOk rows → Canon m.1 m.2 → Canon (putAll rows m).1 (putAll rows m).2
  | [], _, _, C => C
  | q :: r, m, h, C => putAll_canon (rows := r) (fun x hx => h x (List.mem_cons_of_mem _ hx)) (C.put (h q (by simp)).1 (h q (by simp)).2).1
theorem putAll_length : ∀ (rows : List Row) (m : List Int × List Val), (putAll rows m).1.length ≤ m.1.length + 2 * rows.length
  | [], m => by simp [putAll]
  | q :: r, m => by
    have h1 := putAll_length r (putSt q.1 q.2.1 q.2.2 m.1 m.2, putVs q.1 q.2.1 q.2.2 m.1 m.2)
    have h2 := putSt_length q.1 q.2.1 q.2.2 m.1 m.2
    simp only [putAll, List.length_cons] at h1 ⊢
    omega
theorem putAll_take {rows : List Row} {j : Nat} {q : Row} {m : List Int × List Val} (h : rows[j]? = some q) : putAll (rows.take (j + 1)) m = (putSt q.1 q.2.1 q.2.2 (putAll (rows.take j) m).1 (putAll (rows.take j) m).2, putVs q.1 q.2.1 q.2.2 (putAll (rows.take j) m).1 (putAll (rows.take j) m).2) := by
  rw [List.take_add_one, h, putAll_append]; rfl
/-- the loop «for first, last, value in rows: found.put(first, last, value)» -/
theorem put_loop {x fx lx vx : Str} {iter : Expr} {k : Nat} {p1 p2 p3 tp np ap pos sp fp : Pos} {q1 q2 q3 : Pos} {rows : List Row} {d : Val} {m0 : List Int × List Val} {ρ0 : List Ent} {Ψ : PostR} (i a b c : Nat)
    (hit : IterEv (KK w) p w (n + 4) sc xs (hid ρ0) true (.Tuple [.Name fx p1, .Name lx p2, .Name vx p3] k tp) iter (rows.map rowV)) (ok : RowsOk rows) (C : Canon m0.1 m0.2) (hz : m0.1.length + 2 * rows.length ≤ 500)
    (hi : xs[i]? = some x) (ha : xs[a]? = some fx) (hb : xs[b]? = some lx) (hc : xs[c]? = some vx) (n1 : i ≠ a ∧ i ≠ b ∧ i ≠ c ∧ a ≠ b ∧ a ≠ c ∧ b ≠ c) (hx : i < ρ0.length ∧ a < ρ0.length ∧ b < ρ0.length ∧ c < ρ0.length)
    (h0 : ρ0[i]? = some (some (true, RMv d m0.1 m0.2))) (k1 : sc.names.lookup fx = some .local) (k2 : sc.names.lookup lx = some .local) (k3 : sc.names.lookup vx = some .local) (hnf : noFree sc = true)
    (hs : ∀ env x, foldedSetIterable iter env x = pure x) (hline : (ap.endLine == pos.line) = true) (g1 : (x == ("__debug__" : Str)) = false) (g2 : (x == ("__classdict__" : Str)) = false)
    (g3 : (fx == ("__debug__" : Str)) = false) (g4 : (fx == ("__classdict__" : Str)) = false) (g5 : (lx == ("__debug__" : Str)) = false) (g6 : (lx == ("__classdict__" : Str)) = false) (g7 : (vx == ("__debug__" : Str)) = false) (g8 : (vx == ("__classdict__" : Str)) = false) :
    Tr1 (KK w) p w (n + 4) sc cm xs ρ0 (.For (.Tuple [.Name fx p1, .Name lx p2, .Name vx p3] k tp) iter [.Expr (.Call (.Attribute (.Name x np) "put" ap) [.Name fx q1, .Name lx q2, .Name vx q3] [] pos) sp] [] fp)
      (fun ρ => ∃ u v y, ρ = (((ρ0.set i (ow (RMv d (putAll rows m0).1 (putAll rows m0).2))).set a u).set b v).set c y) Ψ := by
  refine .mono (Tr1.for (ds := rows.map rowV) (fun j ρ => ∃ u v y, ρ = (((ρ0.set i (ow (RMv d (putAll (rows.take j) m0).1 (putAll (rows.take j) m0).2))).set a u).set b v).set c y) hit ?_ ?_ hnf hs) ?_ (fun _ _ _ h => h)
  · refine ⟨ρ0.getD a none, ρ0.getD b none, ρ0.getD c none, ?_⟩
    obtain ⟨x1, x2, x3, x4⟩ := hx
    refine List.ext_getElem? fun t => ?_
    obtain ⟨n1, n2, n3, n4, n5, n6⟩ := n1
    simp only [List.getElem?_set, List.length_set]
    by_cases t1 : c = t
    · subst t1; simp [x4]
    by_cases t2 : b = t
    · subst t2; simp [x3, t1]
    by_cases t3 : a = t
    · subst t3; simp [x2, t1, t2]
    by_cases t4 : i = t
    · subst t4
      rw [if_neg t1, if_neg t2, if_neg t3, if_pos rfl, if_pos x1, h0]; rfl
    · simp [t1, t2, t3, t4]
  · rintro j e ρ hd ⟨u, v, y, rfl⟩
    rw [List.getElem?_map, Option.map_eq_some_iff] at hd
    obtain ⟨q, hq, rfl⟩ := hd
    obtain ⟨o1, o2⟩ := ok q (List.mem_of_getElem? hq)
    have C' : Canon (putAll (rows.take j) m0).1 (putAll (rows.take j) m0).2 := putAll_canon (fun x hx => ok x (List.mem_of_mem_take hx)) C
    have hz' : (putAll (rows.take j) m0).1.length ≤ 500 := by
      have := putAll_length (rows.take j) m0
      have h2 : (rows.take j).length ≤ rows.length := by rw [List.length_take]; omega
      omega
    rw [putAll_take hq]
    generalize putAll (rows.take j) m0 = m at *
    refine ⟨_, .tuple [⟨a, fx, p1⟩, ⟨b, lx, p2⟩, ⟨c, vx, p3⟩] rfl (by simp; exact ⟨⟨ha, .inl k1⟩, ⟨hb, .inl k2⟩, hc, .inl k3⟩), ?_⟩
    obtain ⟨x1, x2, x3, x4⟩ := hx
    obtain ⟨n1, n2, n3, n4, n5, n6⟩ := n1
    obtain ⟨ρ1, hρ1⟩ : ∃ ρ1, ρ1 = setAll ((((ρ0.set i (ow (RMv d m.1 m.2))).set a u).set b v).set c y) (([⟨a, fx, p1⟩, ⟨b, lx, p2⟩, ⟨c, vx, p3⟩] : List NmT).map (·.i) |>.zip ([V.int q.1, V.int q.2.1, q.2.2.v].map fun d => (false, d))) := ⟨_, rfl⟩
    have eρ : ρ1 = ((((((ρ0.set i (ow (RMv d m.1 m.2))).set a u).set b v).set c y).set a (fz (.int q.1))).set b (fz (.int q.2.1))).set c (fz q.2.2.v) := hρ1
    have r1 : ρ1[i]? = some (ow (RMv d m.1 m.2)) := by
      rw [eρ]; simp only [List.getElem?_set, List.length_set]; simp [n1.symm, n2.symm, n3.symm, x1]
    have r2 : ρ1[a]? = some (fz (.int q.1)) := by
      rw [eρ]; simp only [List.getElem?_set, List.length_set]; simp [n4.symm, n5.symm, x2]
    have r3 : ρ1[b]? = some (fz (.int q.2.1)) := by
      rw [eρ]; simp only [List.getElem?_set, List.length_set]; simp [n6.symm, x3]
    have r4 : ρ1[c]? = some (fz q.2.2.v) := by
      rw [eρ]; simp only [List.getElem?_set, List.length_set]; simp [x4]
    show Tr _ _ _ _ _ _ _ (setAll ((((ρ0.set i (ow (RMv d m.1 m.2))).set a u).set b v).set c y) (([⟨a, fx, p1⟩, ⟨b, lx, p2⟩, ⟨c, vx, p3⟩] : List NmT).map (·.i) |>.zip ([V.int q.1, V.int q.2.1, q.2.2.v].map fun d => (false, d)))) _ _ _
    rw [← hρ1]
    refine .cons (Tr1.call (fa := 243) (C := 258) (i := i) (fs := fldM d.v m.1 m.2) (fs' := fldM d.v (putSt q.1 q.2.1 q.2.2 m.1 m.2) (putVs q.1 q.2.1 q.2.2 m.1 m.2)) (l := [(false, .int q.1), (false, .int q.2.1), (false, q.2.2.v)])
      (.cons (.hid (fr := false) (.nm a ha (get_hid r2) g3 g4)) (.cons (.hid (fr := false) (.nm b hb (get_hid r3) g5 g6)) (.cons (.hid (fr := false) (.nm c hc (get_hid r4) g7 g8)) .nil))) rfl (ctrO_put C'.asc C'.zero C'.len hz' o1) hi r1 (by kernel_rfl) rfl rfl (by simp) hline g1 g2) ?_
    rintro ρ' rfl
    refine .nil ⟨fz (.int q.1), fz (.int q.2.1), fz q.2.2.v, ?_⟩
    rw [eρ]
    refine List.ext_getElem? fun t => ?_
    simp only [List.getElem?_set, List.length_set]
    by_cases t1 : i = t
    · subst t1; simp [x1, n1.symm, n2.symm, n3.symm]; rfl
    by_cases t2 : c = t
    · subst t2; simp [t1, x4]
    by_cases t3 : b = t
    · subst t3; simp [t1, t2, x3]
    by_cases t4 : a = t
    · subst t4; simp [t1, t2, t3, x2]
    · simp [t1, t2, t3, t4]
  · rintro ρ h
    rw [List.length_map, List.take_length] at h
    exact h
theorem canon0 (d : Val) : Canon [0] [d] := ⟨by simp [Asc], rfl, rfl, by simp, fun k hk => by simp at hk⟩
noncomputable def madeOf (rows : List Row) (d : Val) : List Int × List Val := putAll rows ([0], [d])
theorem madeOf_canon {rows : List Row} {d : Val} (ok : RowsOk rows) : Canon (madeOf rows d).1 (madeOf rows d).2 := putAll_canon ok (canon0 d)
theorem madeOf_length (rows : List Row) (d : Val) : (madeOf rows d).1.length ≤ 1 + 2 * rows.length := by
  have := putAll_length rows ([0], [d])
  simpa [madeOf] using this
theorem newMap {ρ : List Ent} {np pos : Pos} {e : Expr} {d : Val} (h : Evs (KK w) p w (n + 2) sc xs (hid ρ) e false d.v) (hu : unstar e = true := by rfl) (hk : sc.names.lookup ("RangeMap" : Str) = some .globalImplicit := by rfl) : Rhs (KK w) p w (n + 2) sc cm xs ρ (.Call (.Name "RangeMap" np) [e] [] pos) true (RMv d [0] [d]) :=
  Rhs.newInst (callG (fr := true) (.cons h .nil hu) ctr_RangeMap (by kernel_rfl) (by kernel_rfl) hk (by simp [hu])) (by
    show ((d.v).sq && (true && ((V.list [d.v]).sq && true))) = true
    rw [d.sq]
    show (true && (true && ((d.v.sq && true) && true))) = true
    rw [d.sq]; rfl)
theorem map_of_tr {rows : List Row} {d : Val} (ok : RowsOk rows) (hz : rows.length ≤ 200) : Body w p (n + 4) (topAt 22) true ["rows", "default", "found", "first", "last", "value"] [.list (rows.map rowV), d.v] 4 true (RMv d (madeOf rows d).1 (madeOf rows d).2) := by
  refine .andThen (ρ' := [fz (.list (rows.map rowV)), fz d.v, ow (RMv d [0] [d]), none, none, none]) (.set 2 (newMap (.nm 1))) ?_
  refine .cons (put_loop (m0 := ([0], [d])) (d := d) 2 3 4 5 (.list (.nm 0)) ok (canon0 d) (by simp; omega) rfl rfl rfl rfl (by decide) (by simp) rfl rfl rfl rfl rfl (by intro _ _; rfl) rfl rfl rfl rfl rfl rfl rfl rfl rfl) ?_
  rintro ρ ⟨u, v, y, rfl⟩
  exact .retOwn 2 ⟨rfl, fun h => h⟩
theorem ctr_map_of {rows : List Row} {d : Val} (ok : RowsOk rows) (hz : rows.length ≤ 200) : Ctr (KK w) p w (n + 5) (.ref 276) [.list (rows.map rowV), d.v] true (RMv d (madeOf rows d).1 (madeOf rows d).2) :=
  ctrB ["found", "first", "last", "value"] D_map_of S_map_of (map_of_tr ok hz)
noncomputable def laidOf (d : Val) (a b : List Int × List Val) : List Int × List Val := putAll (restOf d (rowsOf b.1 b.2)) (madeOf (restOf d (rowsOf a.1 a.2)) d)
theorem evMR {ρ : List (Option V)} {o : Expr} {apos pos : Pos} {d : Val} {st : List Int} {vs : List Val} (h1 : Evs (KK w) p w (n + 3) sc xs ρ o false (RMv d st vs)) (hl : vs.length = st.length) (hz : st.length ≤ 1000) (hline : (apos.endLine == pos.line) = true := by rfl) (hbase : ∀ env, attributeBase o "ranges" env (eval o env) = eval o env := by intro _; rfl) :
    Evs (KK w) p w (n + 3) sc xs ρ (.Call (.Attribute o "ranges" apos) [] [] pos) true (.list ((restOf d (rowsOf st vs)).map rowV)) :=
  .method h1 .nil (ctr_mranges hl hz) (by kernel_rfl) rfl rfl (by decide) hline hbase
theorem rowsG_mem {α : Type} (st : List Int) : ∀ (k : Nat) (vs : List α) (q : Int × Int × α), q ∈ rowsG st k vs → ∃ j, k ≤ j ∧ j < k + vs.length ∧ q.1 = st.getD j 0 ∧ q.2.1 = lastOf st j
  | _, [], _, h => by cases h
  | k, v :: vs, q, h => by
    rcases List.mem_cons.mp h with rfl | h
    · exact ⟨k, Nat.le_refl _, by simp, rfl, rfl⟩
    · obtain ⟨j, j1, j2, j3, j4⟩ := rowsG_mem st (k + 1) vs q h
      exact ⟨j, by omega, by simp; omega, j3, j4⟩
theorem rowsOf_ok {st : List Int} {vs : List Val} (C : Canon st vs) : RowsOk (rowsOf st vs) := fun q hq => by
  obtain ⟨j, j1, j2, j3, j4⟩ := rowsG_mem st 0 vs q hq
  rw [j3, j4]
  have hj : j < st.length := by have := C.len; omega
  rw [List.getD_eq_getElem?_getD, List.getElem?_eq_getElem hj]
  refine ⟨C.nonneg _ (List.getElem_mem hj), ?_⟩
  unfold lastOf
  split
  · rename_i h
    rw [List.getD_eq_getElem?_getD, List.getElem?_eq_getElem h]
    have := C.top _ (List.getElem_mem h)
    simp; omega
  · omega
theorem rest_ok {st : List Int} {vs : List Val} {d : Val} (C : Canon st vs) : RowsOk (restOf d (rowsOf st vs)) := fun q hq => rowsOf_ok C q (List.mem_filter.mp hq).1
theorem rest_length {st : List Int} {vs : List Val} {d : Val} : (restOf d (rowsOf st vs)).length ≤ vs.length := by
  rw [← rowsOf_length st vs]
  exact List.length_filter_le ..
theorem laid_tr {d : Val} {a b : List Int × List Val} (ca : Canon a.1 a.2) (cb : Canon b.1 b.2) (ha : a.1.length ≤ 50) (hb : b.1.length ≤ 50) : Body w p (n + 5) (topAt 25) true ["below", "above", "found", "first", "last", "value"] [RMv d a.1 a.2, RMv d b.1 b.2] 4 true (RMv d (laidOf d a b).1 (laidOf d a b).2) := by
  have la := rest_length (d := d) (st := a.1) (vs := a.2)
  have lb := rest_length (d := d) (st := b.1) (vs := b.2)
  have la' := ca.len
  have lb' := cb.len
  have lm := madeOf_length (restOf d (rowsOf a.1 a.2)) d
  refine .andThen (ρ' := [fz (RMv d a.1 a.2), fz (RMv d b.1 b.2), ow (RMv d (madeOf (restOf d (rowsOf a.1 a.2)) d).1 (madeOf (restOf d (rowsOf a.1 a.2)) d).2), none, none, none])
    (.set 2 (Rhs.newInst (callG (fr := true) (.cons (evMR (.nm 0) ca.len (by omega)).weak (.cons (.attr (.nm 0) rfl (by kernel_rfl)) .nil)) (ctr_map_of (rest_ok ca) (by omega))) ?_)) ?_
  · show ((d.v).sq && (V.sqs (List.map V.int _) && (V.sqs (List.map Val.v _) && true))) = true
    rw [d.sq, sqs_ints, sqs_vals]; rfl
  refine .cons (put_loop (m0 := madeOf (restOf d (rowsOf a.1 a.2)) d) (d := d) 2 3 4 5 (.list (evMR (.nm 1) cb.len (by omega))) (rest_ok cb) (madeOf_canon (rest_ok ca)) (by omega) rfl rfl rfl rfl (by decide) (by simp) rfl rfl rfl rfl rfl (by intro _ _; rfl) rfl rfl rfl rfl rfl rfl rfl rfl rfl) ?_
  rintro ρ ⟨u, v, y, rfl⟩
  exact .retOwn 2 ⟨rfl, fun h => h⟩
theorem ctr_laid {d : Val} {a b : List Int × List Val} (ca : Canon a.1 a.2) (cb : Canon b.1 b.2) (ha : a.1.length ≤ 50) (hb : b.1.length ≤ 50) : Ctr (KK w) p w (n + 6) (.ref 293) [RMv d a.1 a.2, RMv d b.1 b.2] true (RMv d (laidOf d a b).1 (laidOf d a b).2) :=
  ctrB ["found", "first", "last", "value"] D_laid S_laid (laid_tr ca cb ha hb)
end Mine

-- L3
namespace Mine

/-! plain: a map built from left to right, up to a code -/
section
variable {α : Type} [DecidableEq α]
structure Built (st : List Int) (vs : List α) (c : Int) (g : Int → α) : Prop where
  asc : Asc st
  len : vs.length = st.length
  zero : 0 < c → st[0]? = some 0
  nil : c = 0 → st = []
  low : ∀ a ∈ st, 0 ≤ a ∧ a < c
  dif : Dif vs
  val : ∀ x, 0 ≤ x → x < c → mapAt st vs x = some (g x)
theorem Built.start (g : Int → α) : Built [] [] 0 g :=
  ⟨List.Pairwise.nil, rfl, fun h => absurd h (by omega), fun _ => rfl, fun a h => absurd h (by simp), Dif.nil, fun x _ _ => by omega⟩
noncomputable def addB (st : List Int) (vs : List α) (c : Int) (x : α) : List Int × List α := if vs[vs.length - 1]? = some x then (st, vs) else (st ++ [c], vs ++ [x])
theorem Built.step {st : List Int} {vs : List α} {c c' : Int} {g : Int → α} (B : Built st vs c g) (h0 : 0 ≤ c) (h1 : c < c') {x : α} (hg : ∀ y, c ≤ y → y < c' → g y = x) : Built (addB st vs c x).1 (addB st vs c x).2 c' g := by
  have hlen := B.len
  unfold addB
  split
  · rename_i h
    have hpos : 0 < vs.length := by
      have := (List.getElem?_eq_some_iff.mp h).1; omega
    have cp : 0 < c := by
      refine Decidable.byContradiction fun z => ?_
      have := B.nil (by omega)
      rw [this] at hlen; simp at hlen; rw [hlen] at hpos; simp at hpos
    refine ⟨B.asc, B.len, fun _ => B.zero cp, fun z => by omega, fun a ha => ⟨(B.low a ha).1, by have := (B.low a ha).2; omega⟩, B.dif, fun y hy hy' => ?_⟩
    by_cases q : y < c
    · exact B.val y hy q
    · unfold mapAt
      show vs[cnt st y - 1]? = _
      rw [cnt_high (fun a ha => by have := (B.low a ha).2; omega), ← hlen, h, hg y (by omega) hy']
  · rename_i h
    refine ⟨asc_append B.asc (List.pairwise_singleton ..) fun a ha b hb => ?_, by simp [hlen], fun _ => ?_, fun z => by omega, fun a ha => ?_, Dif.append B.dif Dif.one fun a b ha hb => ?_, fun y hy hy' => ?_⟩
    · simp at hb; have := (B.low a ha).2; omega
    · by_cases q : c = 0
      · rw [B.nil q, q]; rfl
      · rw [List.getElem?_append_left, B.zero (by omega)]
        have := (List.getElem?_eq_some_iff.mp (B.zero (by omega))).1
        exact this
    · rcases List.mem_append.mp ha with q | q
      · have := B.low a q; omega
      · simp at q; omega
    · simp at hb; subst hb
      intro z; subst z; exact h ha
    · unfold mapAt
      show (vs ++ [x])[cnt (st ++ [c]) y - 1]? = _
      rw [cnt_append]
      by_cases q : y < c
      · have e : cnt [c] y = 0 := cnt_low (by simp; omega)
        have hp := (cnt_spec B.asc y (B.zero (by omega))).mp hy
        have hle := cnt_le st y
        rw [e, List.getElem?_append_left (by omega)]
        exact B.val y hy q
      · have e : cnt [c] y = 1 := cnt_high (l := [c]) (by simp; omega)
        rw [e, cnt_high (fun a ha => by have := (B.low a ha).2; omega), List.getElem?_append_right (by omega), show st.length + 1 - 1 - vs.length = 0 by omega, hg y (by omega) hy']
        rfl
theorem Built.canon {st : List Int} {vs : List α} {g : Int → α} (B : Built st vs 1114112 g) : Canon st vs := ⟨B.asc, B.zero (by omega), B.len, fun a ha => by have := (B.low a ha).2; omega, B.dif⟩
theorem Canon.next {st : List Int} {vs : List α} (C : Canon st vs) {c y : Int} (h0 : 0 ≤ c) (h : c ≤ y) (hy : ∀ a, st[cnt st c]? = some a → y < a) : cnt st y = cnt st c := by
  have e := cnt_take_drop C.asc y c h
  have z : cnt (st.drop (cnt st c)) y = 0 := by
    refine cnt_low fun a ha => ?_
    obtain ⟨i, hi⟩ := List.getElem?_of_mem ha
    cases hs : st[cnt st c]? with
    | none =>
      have := List.getElem?_eq_none_iff.mp hs
      rw [List.drop_eq_nil_of_le this] at ha; cases ha
    | some b =>
      have hb := hy b hs
      rw [List.getElem?_drop] at hi
      by_cases q : i = 0
      · subst q; rw [Nat.add_zero, hs] at hi; cases hi; exact hb
      · obtain ⟨l1, e1⟩ := List.getElem?_eq_some_iff.mp hs
        obtain ⟨l2, e2⟩ := List.getElem?_eq_some_iff.mp hi
        have := List.pairwise_iff_getElem.mp C.asc _ _ l1 l2 (by omega)
        omega
  omega
end
end Mine

-- Q15
namespace Mine
variable {K : Frag} {p : Program} {w : World} {n : Nat} {sc : Scope} {cm : Bool} {xs : List Str}

/-! range_values -/
theorem cmp_eqNil {ds : List V} (h : V.plains ds = true) (hd : PyData.depthAll (V.pys ds) ≤ 50) : CmpIs K p w n .Eq (.list ds) (.list []) ds.isEmpty := by
  have := cmp_eq (K := K) (p := p) (w := w) (n := n) (d := .list ds) (e := .list []) h rfl (by show PyData.depthAll _ + 1 ≤ 60; omega)
  have e : (V.list ds).eqv (.list []) = ds.isEmpty := by cases ds <;> rfl
  rw [e] at this
  exact this
noncomputable def addVal (f : List Val) (v : Val) : List Val := if v ∈ f then f else f ++ [v]
noncomputable def valuesOf (rows : List Row) : List Val := rows.foldl (fun f q => addVal f q.2.2) []
theorem foldV_length : ∀ (rows : List Row) (f : List Val), (rows.foldl (fun f q => addVal f q.2.2) f).length ≤ f.length + rows.length
  | [], f => by simp
  | q :: r, f => by
    have h1 := foldV_length r (addVal f q.2.2)
    have h2 : (addVal f q.2.2).length ≤ f.length + 1 := by unfold addVal; split <;> simp
    simp only [List.foldl_cons, List.length_cons]
    omega
theorem isEmpty_filter (f : List Val) (v : Val) : ((f.filter fun a => decide (a = v)).map Val.v).isEmpty = !decide (v ∈ f) := by
  rw [List.isEmpty_map]
  by_cases q : v ∈ f
  · have : (f.filter fun a => decide (a = v)).isEmpty = false := by
      rw [List.isEmpty_eq_false_iff]
      intro z
      have : v ∈ f.filter fun a => decide (a = v) := List.mem_filter.mpr ⟨q, by simp⟩
      rw [z] at this; cases this
    rw [this]; simp [q]
  · have : (f.filter fun a => decide (a = v)) = [] := by
      rw [List.filter_eq_nil_iff]
      intro a ha z
      simp at z; subst z; exact q ha
    rw [this]; simp [q]
theorem values_tr {d : Val} {st : List Int} {vs : List Val} (hl : vs.length = st.length) (hz : st.length ≤ 500) : Body w p (n + 2) (topAt 23) true ["range_map", "found", "first", "last", "value"] [RMv d st vs] 4 true (vals (valuesOf (rowsOf st vs))) := by
  refine .andThen (ρ' := [fz (RMv d st vs), ow (vals []), none, none, none]) (.set 1 (Rhs.newList (.list .nil) rfl)) ?_
  refine .cons (Tr1.for (ds := (rowsOf st vs).map rowV) (fun j ρ => ∃ x y z, ρ = [fz (RMv d st vs), ow (vals (valuesOf ((rowsOf st vs).take j))), x, y, z]) (.list (callG (.cons (.nm 0) .nil) (ctr_rows Val.v hl (by omega)))) ⟨none, none, none, rfl⟩ ?_) ?_
  · rintro j e ρ hd ⟨x, y, z, rfl⟩
    rw [List.getElem?_map, Option.map_eq_some_iff] at hd
    obtain ⟨q, hq, rfl⟩ := hd
    have hj := (List.getElem?_eq_some_iff.mp hq).1
    rw [rowsOf_length] at hj
    have hlen : (valuesOf ((rowsOf st vs).take j)).length ≤ 500 := by
      have := foldV_length ((rowsOf st vs).take j) []
      have h2 : ((rowsOf st vs).take j).length ≤ j := List.length_take_le ..
      unfold valuesOf
      simp at this h2 ⊢; omega
    have next : valuesOf ((rowsOf st vs).take (j + 1)) = addVal (valuesOf ((rowsOf st vs).take j)) q.2.2 := by
      unfold valuesOf; rw [foldl_take _ _ _ hq]
    rw [next]
    generalize valuesOf ((rowsOf st vs).take j) = f at *
    refine ⟨_, .tuple [⟨2, _, _⟩, ⟨3, _, _⟩, ⟨4, _, _⟩] rfl (by simp; exact ⟨⟨rfl, .inl rfl⟩, ⟨rfl, .inl rfl⟩, rfl, .inr ⟨rfl, rfl⟩⟩), ?_⟩
    show Tr _ _ _ _ _ _ _ [fz (RMv d st vs), ow (vals f), fz (.int q.1), fz (.int q.2.1), fz q.2.2.v] _ _ _
    refine .cons (Tr1.ife (b := !decide (q.2.2 ∈ f)) (.cast (.cmp (cmp_eqNil (ds := (f.filter fun a => decide (a = q.2.2)).map Val.v) (plains_map Val.plain _) (Nat.le_trans (depth_map Val.depth _) (by decide))) (.comp (fr := false) (as := f) (gv := Val.v) (pt := fun a => decide (a = q.2.2)) (f := Val.v) [4] (.list (fr := false) (.nm 1)) (by rw [sizeLine_eq]; omega) (fun a ha => ?_) (fun a ha _ => .nm 0)) (.list (fr := false) .nil)) (isEmpty_filter f q.2.2)) (fun h => ?_) fun h => ?_) (fun ρ' q => .nil q)
    · show Evt _ _ _ _ _ _ _ _ _
      exact .val (callG (.cons (.nm 0) (.cons (.nm 1) .nil)) ctr_like)
    · refine .cons (.app 1 (ds := f.map Val.v) (.hid (fr := false) (.nm 4)) (by rw [List.length_map]; omega)) ?_
      rintro ρ rfl
      refine .nil ⟨fz (.int q.1), fz (.int q.2.1), fz q.2.2.v, ?_⟩
      unfold addVal
      rw [if_neg (by simpa using h)]
      show [_, _, _, _, _] = [_, _, _, _, _]
      unfold vals
      rw [List.map_append]; rfl
    · refine .nil ⟨fz (.int q.1), fz (.int q.2.1), fz q.2.2.v, ?_⟩
      unfold addVal
      rw [if_pos (by simpa using h)]
  · rintro ρ ⟨x, y, z, rfl⟩
    refine .retOwn 1 ⟨?_, fun h => h⟩
    rw [List.length_map, List.take_length]
theorem ctr_values {d : Val} {st : List Int} {vs : List Val} (hl : vs.length = st.length) (hz : st.length ≤ 500) : Ctr (KK w) p w (n + 3) (.ref 281) [RMv d st vs] true (vals (valuesOf (rowsOf st vs))) :=
  ctrB ["found", "first", "last", "value"] D_values S_values (values_tr hl hz)

/-! range_maps_equal -/
theorem oneRange {m : Nat} (h : m ≤ 1000000) : Builtin.Range.small 0 (m : Int) 1 = true ∧ Builtin.Range.rangeSize 0 (m : Int) 1 = (m : Int) := by
  have := unitRange (a := 0) (b := (m : Int)) (by omega) (by omega) (by omega) (by omega) (by omega)
  simpa using this
theorem rInts_range (m : Nat) : (rInts 0 1 m).map V.int = (List.range m).map fun k => .int (k : Nat) := by
  unfold rInts
  rw [List.map_map]
  exact List.map_congr_left fun k _ => congrArg V.int (show (0 + (k : Int) * 1) = ((k : Nat) : Int) by omega)
theorem all_eqV (a b : List Val) (h : a.length = b.length) : ((List.range a.length).map fun k => decide (a.getD k zv = b.getD k zv)).all id = decide (a = b) := by
  by_cases q : a = b
  · subst q
    simp
  · simp only [q, decide_false]
    rw [List.all_eq_false]
    refine Decidable.byContradiction fun z => q (List.ext_getElem h fun k h1 h2 => ?_)
    refine Decidable.byContradiction fun z2 => z ⟨decide (a.getD k zv = b.getD k zv), List.mem_map.mpr ⟨k, List.mem_range.mpr h1, rfl⟩, ?_⟩
    rw [List.getD_eq_getElem?_getD, List.getD_eq_getElem?_getD, List.getElem?_eq_getElem h1, List.getElem?_eq_getElem h2]
    simp [z2]
theorem equal_tr {d e : Val} {a b : List Int × List Val} (ca : Canon a.1 a.2) (cb : Canon b.1 b.2) (ha : a.1.length ≤ 500) (hb : b.1.length ≤ 500) : Body w p (n + 2) (topAt 24) true ["near", "far"] [RMv d a.1 a.2, RMv e b.1 b.2] 0 false (.bool (decide (a = b))) := by
  refine .ifRet (b := !decide (a.1 = b.1)) (fr := false) (d := .bool false) (.cmp (cmp_neI a.1 b.1) (.attr (.nm 0) rfl (by kernel_rfl)) (.attr (.nm 1) rfl (by kernel_rfl))) (fun h => ⟨.boolc, ?_, fun h => h⟩) fun h => ?_
  · have h' : ¬ a.1 = b.1 := by simpa using h
    have : ¬ a = b := fun z => h' (z ▸ rfl)
    simp [this]
  · have h' : a.1 = b.1 := by simpa using h
    have hl : a.2.length = b.2.length := by rw [ca.len, cb.len, h']
    have l1 := ca.len
    obtain ⟨r1, r2⟩ := oneRange (m := a.2.length) (by omega)
    have e1 : (List.range a.2.length).map (fun k : Nat => V.int (k : Nat)) = (rInts 0 1 a.2.length).map .int := (rInts_range _).symm
    have e2 : ((List.range a.2.length).filter fun _ => true).map (fun k => V.bool (decide (a.2.getD k zv = b.2.getD k zv))) = ((List.range a.2.length).map fun k => decide (a.2.getD k zv = b.2.getD k zv)).map .bool := by
      rw [List.filter_eq_self.mpr (by simp), List.map_map]; rfl
    have main := all_eqV a.2 b.2 hl
    have e3 : decide (a = b) = decide (a.2 = b.2) := by
      rw [decide_eq_decide]
      constructor
      · intro z; rw [z]
      · intro z; exact Prod.ext h' z
    rw [e3, ← main]
    refine .ret (fr := false) (callB (.cons (.cast (.comp (fr := false) (as := List.range a.2.length) (gv := fun k => .int (k : Nat)) (pt := fun _ => true) (f := fun k => .bool (decide (a.2.getD k zv = b.2.getD k zv))) [0, 1] (by
      rw [e1]
      exact .range (fr := false) (.cast (callT (.cons (callB (.cons (.attr (.nm 0) rfl (by kernel_rfl)) .nil) (ctr_len (by rw [List.length_map, sizeLine_eq]; omega))) .nil) ctr_range1) (by rw [List.length_map])) r1 r2) (by rw [List.length_range, sizeLine_eq]; omega) (fun k hk => rfl) (fun k hk _ => ?_)) (congrArg V.list e2)) .nil) ctr_all) ⟨rfl, fun h => h⟩
    have hk' : k < a.2.length := List.mem_range.mp hk
    exact callG (.cons (.item (.attr (.nm 1) rfl (by kernel_rfl)) (.nm 0) (by omega) (by omega) (vItem hk')) (.cons (.item (.attr (.nm 2) rfl (by kernel_rfl)) (.nm 0) (by omega) (by omega) (vItem (by omega))) .nil)) (ctr_like (a := a.2.getD k zv) (b := b.2.getD k zv))
theorem ctr_equal {d e : Val} {a b : List Int × List Val} (ca : Canon a.1 a.2) (cb : Canon b.1 b.2) (ha : a.1.length ≤ 500) (hb : b.1.length ≤ 500) : Ctr (KK w) p w (n + 3) (.ref 286) [RMv d a.1 a.2, RMv e b.1 b.2] false (.bool (decide (a = b))) :=
  ctrB [] D_equal S_equal (equal_tr ca cb ha hb)
end Mine

-- Q16
namespace Mine
variable {K : Frag} {p : Program} {w : World} {n : Nat} {sc : Scope} {cm : Bool} {xs : List Str}

/-! range_map_paired -/
noncomputable def gP (q : Val × Val) : V := .tuple [q.1.v, q.2.v]
theorem plain_gP (q : Val × Val) : (gP q).plain = true := by
  show (q.1.v.plain && (q.2.v.plain && true)) = true
  rw [q.1.plain, q.2.plain]; rfl
theorem depth_gP (q : Val × Val) : (gP q).py.depth ≤ 1 := by
  show max q.1.v.py.depth (max q.2.v.py.depth 0) + 1 ≤ 1
  have := q.1.depth
  have := q.2.depth
  omega
theorem tup_gP (q : Val × Val) : (gP q).tup = true := by
  show (q.1.v.tup && (q.2.v.tup && true)) = true
  rw [q.1.tup, q.2.tup]; rfl
theorem sq_gP (q : Val × Val) : (gP q).sq = true := by
  show (q.1.v.sq && (q.2.v.sq && true)) = true
  rw [q.1.sq, q.2.sq]; rfl
noncomputable def atV (m : List Int × List Val) (c : Int) : Val := (mapAt m.1 m.2 c).getD zv
noncomputable def pairAt (a b : List Int × List Val) (c : Int) : Val × Val := (atV a c, atV b c)
noncomputable def nextOf (st : List Int) (k : Nat) : Int := if k + 1 < st.length then st.getD (k + 1) 0 else 1114112
theorem mapAt_atV {m : List Int × List Val} (C : Canon m.1 m.2) {c : Int} (h : 0 ≤ c) : mapAt m.1 m.2 c = some (atV m c) := by
  have hp := C.pos h
  have hl := cnt_le m.1 c
  have := C.len
  unfold atV mapAt
  rw [List.getElem?_eq_getElem (by omega)]; rfl
theorem atV_getD {m : List Int × List Val} (C : Canon m.1 m.2) {c : Int} (h : 0 ≤ c) {k : Nat} (hk : cnt m.1 c = k + 1) : m.2.getD k zv = atV m c := by
  unfold atV mapAt
  rw [hk, List.getD_eq_getElem?_getD]; rfl
theorem next_spec {m : List Int × List Val} (C : Canon m.1 m.2) {c : Int} (h : 0 ≤ c) (h1 : c ≤ 1114111) {k : Nat} (hk : cnt m.1 c = k + 1) : c < nextOf m.1 k ∧ nextOf m.1 k ≤ 1114112 ∧ (∀ y, c ≤ y → y < nextOf m.1 k → cnt m.1 y = k + 1) ∧ (nextOf m.1 k ≤ 1114111 → k + 1 < m.1.length ∧ cnt m.1 (nextOf m.1 k) = k + 2) ∧ k < m.1.length := by
  have hl := cnt_le m.1 c
  unfold nextOf
  split
  · rename_i q
    have hg : m.1[k + 1]? = some (m.1.getD (k + 1) 0) := by rw [List.getD_eq_getElem?_getD, List.getElem?_eq_getElem q]; rfl
    have lt : c < m.1.getD (k + 1) 0 := by
      refine Decidable.byContradiction fun z => ?_
      have := (cnt_spec C.asc c hg).mp (by omega)
      omega
    have top := C.top _ (List.mem_of_getElem? hg)
    refine ⟨lt, by omega, fun y hy hy' => ?_, fun _ => ⟨q, ?_⟩, by omega⟩
    · have := C.next h hy fun a ha => by rw [hk, hg] at ha; cases ha; exact hy'
      omega
    · have e1 := (cnt_spec C.asc _ hg).mp (Int.le_refl _)
      have e2 : ¬ k + 2 < cnt m.1 (m.1.getD (k + 1) 0) := fun z => by
        have hlt : k + 2 < m.1.length := Nat.lt_of_lt_of_le z (cnt_le _ _)
        have := (cnt_spec C.asc (m.1.getD (k + 1) 0) (List.getElem?_eq_getElem hlt)).mpr z
        obtain ⟨l1, e⟩ := List.getElem?_eq_some_iff.mp hg
        have := List.pairwise_iff_getElem.mp C.asc _ _ l1 hlt (by omega)
        omega
      omega
  · rename_i q
    refine ⟨by omega, by omega, fun y hy hy' => ?_, fun z => absurd z (by omega), by omega⟩
    have := C.next (y := y) h hy fun a ha => by
      rw [hk] at ha
      have := (List.getElem?_eq_some_iff.mp ha).1
      omega
    omega
theorem one {st : List Int} {vs : List Val} (C : Canon st vs) : cnt st 0 = 1 := by
  have h1 := C.pos (c := 0) (by omega)
  refine Decidable.byContradiction fun z => ?_
  have hl := cnt_le st 0
  have hlt : 1 < cnt st 0 := by omega
  have hlt2 : 1 < st.length := by omega
  have := (cnt_spec C.asc 0 (List.getElem?_eq_getElem hlt2)).mpr hlt
  obtain ⟨l0, e0⟩ := List.getElem?_eq_some_iff.mp C.zero
  have := List.pairwise_iff_getElem.mp C.asc 0 1 l0 hlt2 (by omega)
  omega
noncomputable abbrev paNames : List Str := ["near", "far", "found", "at", "beside", "code", "starts", "values", "pair", "ahead", "other"]
theorem int_if (b : Bool) (i : Nat) : ((i : Int) + if b = true then 1 else 0) = ((if b then i + 1 else i : Nat) : Int) := by cases b <;> simp
theorem paired_tr {d e : Val} {a b : List Int × List Val} (ca : Canon a.1 a.2) (cb : Canon b.1 b.2) (ha : a.1.length ≤ 100) (hb : b.1.length ≤ 100) {ps : List Int} {pv : List (Val × Val)} (hB : ∀ st vs, Built st vs 1114112 (pairAt a b) → st = ps ∧ vs = pv) :
    Body w p (n + 2) (topAt 26) true paNames [RMv d a.1 a.2, RMv e b.1 b.2] 9 true (RM (.tuple [d.v, e.v]) ps (pv.map gP)) := by
  let D : V := .tuple [d.v, e.v]
  have la := ca.len
  have lb := cb.len
  refine .andThen (ρ' := [fz (RMv d a.1 a.2), fz (RMv e b.1 b.2), ow (RM D [0] [D]), fz (.int 0), fz (.int 0), fz (.int 0), none, none, none, none, none])
    (Tr1.asgTup [⟨2, _, _⟩, ⟨3, _, _⟩, ⟨4, _, _⟩, ⟨5, _, _⟩] (l := [(true, RM D [0] [D]), (false, .int 0), (false, .int 0), (false, .int 0)]) (.cons (Rhs.newInst (callG (fr := true) (.cons (.tuple (.cons (.attr (.nm 0) rfl (by kernel_rfl)) (.cons (.attr (.nm 1) rfl (by kernel_rfl)) .nil))) .nil) ctr_RangeMap) ?_) (.cons (.tup .int rfl) (.cons (.tup .int rfl) (.cons (.tup .int rfl) .nil)))) rfl (by simp [sizeLine_eq]) (by simp; exact ⟨⟨rfl, .inl rfl⟩, ⟨rfl, .inl rfl⟩, ⟨rfl, .inl rfl⟩, ⟨rfl, .inl rfl⟩⟩) (fun env eo => rfl)) ?_
  · show ((gP (d, e)).sq && (true && (((gP (d, e)).sq && true) && true))) = true
    rw [sq_gP]; rfl
  refine .andThen (ρ' := [fz (RMv d a.1 a.2), fz (RMv e b.1 b.2), ow (RM D [0] [D]), fz (.int 0), fz (.int 0), fz (.int 0), ow (.ints []), ow (.list []), none, none, none])
    (Tr1.asgSwap [⟨6, _, _⟩, ⟨7, _, _⟩] (l := [(true, .list []), (true, .list [])]) (.cons (Rhs.newList (.list .nil) rfl) (.cons (Rhs.newList (.list .nil) rfl) .nil)) rfl (by simp [sizeLine_eq]) (by simp; exact ⟨⟨rfl, rfl⟩, rfl, rfl⟩) (fun env eo => sw_of eo (by rfl))) ?_
  let J : Nat → PostN := fun k ρ => ∃ (i j : Nat) (c : Int) (st : List Int) (vs : List (Val × Val)) (e1 e2 e3 : Ent), ρ = [fz (RMv d a.1 a.2), fz (RMv e b.1 b.2), ow (RM D [0] [D]), fz (.int i), fz (.int j), fz (.int c), ow (.ints st), ow (.list (vs.map gP)), e1, e2, e3] ∧
    0 ≤ c ∧ c ≤ 1114112 ∧ Built st vs c (pairAt a b) ∧ (c ≤ 1114111 → cnt a.1 c = i + 1 ∧ cnt b.1 c = j + 1) ∧ st.length ≤ i + j + 1 ∧ i ≤ a.1.length ∧ j ≤ b.1.length ∧ k = (a.1.length - i) + (b.1.length - j)
  refine .cons (Φ₁ := fun ρ => ∃ e0 e1 e2 e3 e4 e5, ρ = [fz (RMv d a.1 a.2), fz (RMv e b.1 b.2), ow (RM D [0] [D]), e0, e1, e2, ow (.ints ps), ow (.list (pv.map gP)), e3, e4, e5]) (Tr1.while J (a.1.length + b.1.length) ⟨0, 0, 0, [], [], none, none, none, rfl, by omega, by omega, .start _, fun _ => ?_, by simp, by omega, by omega, by omega⟩ ?_) ?_
  · exact ⟨one ca, one cb⟩
  · rintro k ρ ⟨i, j, c, st, vs, e1, e2, e3, rfl, c0, c1, B, hij, hst, hi, hj, rfl⟩
    refine ⟨decide (c ≤ 1114111), .cmp cmp_le (.nm 5) .gint, fun h => ?_, fun h => ?_⟩
    · have h := of_decide_eq_true h
      obtain ⟨hci, hcj⟩ := hij h
      obtain ⟨a1, a2, a3, a4, a5⟩ := next_spec ca c0 h hci
      obtain ⟨b1, b2, b3, b4, b5⟩ := next_spec cb c0 h hcj
      have gi : (i : Int) < 2 ^ 63 := by omega
      have gj : (j : Int) < 2 ^ 63 := by omega
      have blen := B.len
      -- pair
      refine .andThen (ρ' := [fz (RMv d a.1 a.2), fz (RMv e b.1 b.2), ow (RM D [0] [D]), fz (.int i), fz (.int j), fz (.int c), ow (.ints st), ow (.list (vs.map gP)), fz (gP (pairAt a b c)), e2, e3])
        (.set 8 (.tup (.tuple (.cons (.cast (.item (.attr (.nm 0) rfl (by kernel_rfl)) (.nm 3) (by omega) gi (vItem (by omega))) (congrArg Val.v (atV_getD ca c0 hci))) (.cons (.cast (.item (.attr (.nm 1) rfl (by kernel_rfl)) (.nm 4) (by omega) gj (vItem (by omega))) (congrArg Val.v (atV_getD cb c0 hcj))) .nil))) (tup_gP (pairAt a b c)))) ?_
      generalize hx : pairAt a b c = x
      have step := B.step c0 (c' := if nextOf b.1 j < nextOf a.1 i then nextOf b.1 j else nextOf a.1 i) (by split <;> omega) (x := x) (fun y hy hy' => by
        have q1 : y < nextOf a.1 i := by split at hy' <;> omega
        have q2 : y < nextOf b.1 j := by split at hy' <;> omega
        rw [← hx]
        unfold pairAt atV mapAt
        rw [a3 y hy q1, b3 y hy q2, hci, hcj])
      -- appended or not
      have stl : (addB st vs c x).1.length ≤ i + j + 2 := by unfold addB; split <;> simp <;> omega
      refine .cons (Φ₁ := (· = [fz (RMv d a.1 a.2), fz (RMv e b.1 b.2), ow (RM D [0] [D]), fz (.int i), fz (.int j), fz (.int c), ow (.ints (addB st vs c x).1), ow (.list ((addB st vs c x).2.map gP)), fz (gP x), e2, e3]))
        (Tr1.ife (b := !decide (vs[vs.length - 1]? = some x)) ?_ (fun q => ?_) fun q => ?_) ?_
      · cases hl : vs[vs.length - 1]? with
        | none =>
          have v0 : vs = [] := by
            cases vs with
            | nil => rfl
            | cons x f => simp at hl
          subst v0
          exact .cast (.or (.yes (.cast (.cmp (cmp_eqNil (ds := []) rfl (by decide)) (.nm 7) (.list (fr := false) .nil)) rfl))) (by simp)
        | some y =>
          have vpos : 0 < vs.length := by have := (List.getElem?_eq_some_iff.mp hl).1; omega
          have l0 : -((vs.map gP).length : Int) ≤ -1 := by rw [List.length_map]; omega
          have l1 : (vs.map gP)[((-1 : Int) + ((vs.map gP).length : Int)).toNat]? = some (gP y) := by
            rw [List.length_map, show ((-1 : Int) + (vs.length : Int)).toNat = vs.length - 1 by omega, List.getElem?_map, hl]; rfl
          refine .cast (.or (.c (b := !decide (y.1 = x.1) || (!decide (y.2 = x.2) || false)) (.cast (.cmp (cmp_eqNil (ds := vs.map gP) (plains_map plain_gP vs) (Nat.le_trans (depth_map depth_gP vs) (by decide))) (.nm 7) (.list (fr := false) .nil)) (b' := false) (by cases vs with | nil => simp at vpos | cons _ _ => rfl)) fun _ =>
            .c (.not (.val (callG (.cons (.itemT (.itemNeg (.nm 7) (.neg .int) (by decide) (by decide) l0 l1) .int (by decide) (by decide) rfl) (.cons (.itemT (.nm 8) .int (by decide) (by decide) rfl) .nil)) (ctr_like (a := y.1) (b := x.1))))) fun _ =>
            .c (.not (.val (callG (.cons (.itemT (.itemNeg (.nm 7) (.neg .int) (by decide) (by decide) l0 l1) .int (by decide) (by decide) rfl) (.cons (.itemT (.nm 8) .int (by decide) (by decide) rfl) .nil)) (ctr_like (a := y.2) (b := x.2))))) fun _ => .nil)) ?_
          have : decide (some y = some x) = (decide (y.1 = x.1) && decide (y.2 = x.2)) := by
            rw [← Bool.decide_and, decide_eq_decide, Option.some.injEq, Prod.ext_iff]
          rw [this]
          cases decide (y.1 = x.1) <;> cases decide (y.2 = x.2) <;> rfl
      · have q : ¬ vs[vs.length - 1]? = some x := by simpa using q
        have ea : addB st vs c x = (st ++ [c], vs ++ [x]) := by unfold addB; rw [if_neg q]
        rw [ea]
        refine .cons (.app 6 (ds := st.map .int) (.tup (.nm 5) rfl) (by rw [List.length_map]; omega)) ?_
        rintro ρ rfl
        refine .cons (.app 7 (ds := vs.map gP) (.tup (.nm 8) (tup_gP x)) (by rw [List.length_map]; omega)) ?_
        rintro ρ rfl
        refine .nil ?_
        show [_, _, _, _, _, _, _, _, _, _, _] = [_, _, _, _, _, _, _, _, _, _, _]
        unfold V.ints
        dsimp only
        rw [List.map_append, List.map_append]; rfl
      · have q : vs[vs.length - 1]? = some x := by simpa using q
        have ea : addB st vs c x = (st, vs) := by unfold addB; rw [if_pos q]
        rw [ea]
        exact .nil rfl
      rintro ρ rfl
      generalize addB st vs c x = m at *
      -- ahead
      refine .andThen (ρ' := [fz (RMv d a.1 a.2), fz (RMv e b.1 b.2), ow (RM D [0] [D]), fz (.int i), fz (.int j), fz (.int c), ow (.ints m.1), ow (.list (m.2.map gP)), fz (gP x), fz (.int (nextOf a.1 i)), e3])
        (.set 9 (.tup (fr := false) (.ite (b := decide (i + 1 < a.1.length)) (.cast (.cmp cmp_lt (.add (.nm 3) .int) (callB (fr := false) (.cons (.attr (.nm 0) rfl (by kernel_rfl)) .nil) (ctr_lenI (by omega)))) (by rw [decide_eq_decide]; omega)) (fun q => ?_) fun q => ?_) rfl)) ?_
      · have q := of_decide_eq_true q
        have l2 : (a.1.map V.int)[((i : Int) + 1).toNat]? = some (.int (a.1.getD (i + 1) 0)) := by
          rw [show ((i : Int) + 1).toNat = i + 1 by omega]; exact mItem q
        have en : nextOf a.1 i = a.1.getD (i + 1) 0 := by unfold nextOf; rw [if_pos q]
        rw [en]
        exact .item (.attr (.nm 0) rfl (by kernel_rfl)) (.add (.nm 3) .int) (by omega) (by omega) l2
      · have q := of_decide_eq_false q
        have en : nextOf a.1 i = 1114112 := by unfold nextOf; rw [if_neg q]
        rw [en]
        exact .gint
      refine .andThen (ρ' := [fz (RMv d a.1 a.2), fz (RMv e b.1 b.2), ow (RM D [0] [D]), fz (.int i), fz (.int j), fz (.int c), ow (.ints m.1), ow (.list (m.2.map gP)), fz (gP x), fz (.int (nextOf a.1 i)), fz (.int (nextOf b.1 j))])
        (.set 10 (.tup (fr := false) (.ite (b := decide (j + 1 < b.1.length)) (.cast (.cmp cmp_lt (.add (.nm 4) .int) (callB (fr := false) (.cons (.attr (.nm 1) rfl (by kernel_rfl)) .nil) (ctr_lenI (by omega)))) (by rw [decide_eq_decide]; omega)) (fun q => ?_) fun q => ?_) rfl)) ?_
      · have q := of_decide_eq_true q
        have l2 : (b.1.map V.int)[((j : Int) + 1).toNat]? = some (.int (b.1.getD (j + 1) 0)) := by
          rw [show ((j : Int) + 1).toNat = j + 1 by omega]; exact mItem q
        have en : nextOf b.1 j = b.1.getD (j + 1) 0 := by unfold nextOf; rw [if_pos q]
        rw [en]
        exact .item (.attr (.nm 1) rfl (by kernel_rfl)) (.add (.nm 4) .int) (by omega) (by omega) l2
      · have q := of_decide_eq_false q
        have en : nextOf b.1 j = 1114112 := by unfold nextOf; rw [if_neg q]
        rw [en]
        exact .gint
      generalize hna : nextOf a.1 i = na at *
      generalize hnb : nextOf b.1 j = nb at *
      obtain ⟨c', hc'⟩ : ∃ c', c' = if nb < na then nb else na := ⟨_, rfl⟩
      rw [← hc'] at step
      refine .andThen (ρ' := [fz (RMv d a.1 a.2), fz (RMv e b.1 b.2), ow (RM D [0] [D]), fz (.int i), fz (.int j), fz (.int c'), ow (.ints m.1), ow (.list (m.2.map gP)), fz (gP x), fz (.int na), fz (.int nb)])
        (.set 5 (.tup (.cast (callB (.cons (.nm 9) (.cons (.nm 10) .nil)) ctr_min) (by rw [hc'])) rfl)) ?_
      refine .cons (Tr1.iadd (i := 3) rfl rfl (.inl rfl) (callT (.cons (.cmp cmp_eqInt (.nm 9) (.nm 5)) .nil) ctr_int_bool) (by rfl)) ?_
      rintro ρ rfl
      refine .cons (Tr1.iadd (i := 4) rfl rfl (.inl rfl) (callT (.cons (.cmp cmp_eqInt (.nm 10) (.nm 5)) .nil) ctr_int_bool) (by rfl)) ?_
      rintro ρ rfl
      have hor : na = c' ∨ nb = c' := by rw [hc']; split <;> omega
      have hle : c' ≤ na ∧ c' ≤ nb ∧ c < c' ∧ c' ≤ 1114112 := by rw [hc']; split <;> omega
      refine .nil ⟨(a.1.length - (if na == c' then i + 1 else i)) + (b.1.length - (if nb == c' then j + 1 else j)), ?_, if na == c' then i + 1 else i, if nb == c' then j + 1 else j, c', m.1, m.2, fz (gP x), fz (.int na), fz (.int nb), ?_, by omega, by omega, step, fun q => ?_, ?_, ?_, ?_, rfl⟩
      · rcases hor with q | q
        · rw [if_pos (by simp [q])]; split <;> omega
        · rw [if_pos (c := (nb == c') = true) (by simp [q])]; split <;> omega
      · show [_, _, _, _, _, _, _, _, _, _, _] = [_, _, _, _, _, _, _, _, _, _, _]
        rw [int_if, int_if]
      · constructor
        · by_cases q1 : na = c'
          · rw [if_pos (by simp [q1])]
            have := (a4 (by omega)).2
            rw [q1] at this; exact this
          · rw [if_neg (by simp [q1])]
            exact a3 c' (by omega) (by omega)
        · by_cases q1 : nb = c'
          · rw [if_pos (by simp [q1])]
            have := (b4 (by omega)).2
            rw [q1] at this; exact this
          · rw [if_neg (by simp [q1])]
            exact b3 c' (by omega) (by omega)
      · rcases hor with q | q
        · rw [if_pos (by simp [q])]; split <;> omega
        · rw [if_pos (c := (nb == c') = true) (by simp [q])]; split <;> omega
      · split <;> omega
      · split <;> omega
    · have h := of_decide_eq_false h
      have : c = 1114112 := by omega
      subst this
      obtain ⟨q1, q2⟩ := hB st vs B
      subst q1 q2
      exact ⟨_, _, _, _, _, _, rfl⟩
  · rintro ρ ⟨e0, e1, e2, e3, e4, e5, rfl⟩
    refine .forget (ρ' := [fz (RMv d a.1 a.2), fz (RMv e b.1 b.2), ow (RM D [0] [D]), e0, e1, e2, fz (.ints ps), fz (.list (pv.map gP)), e3, e4, e5]) ?_ ⟨by simp, fun t o f z => ?_⟩ rfl
    · refine Tr.cons (Tr1.setAttr2 (i := 2) (.hid (fr := false) (.nm 6)) (.hid (fr := false) (.nm 7)) rfl rfl (by kernel_rfl) (by kernel_rfl) (Nat.le_of_ble_eq_true rfl) rfl rfl (fun env eo => sw_of eo (by rfl))) ?_
      rintro ρ rfl
      exact Tr.retOwn 2 ⟨rfl, fun h => h⟩
    · match t with
      | 0 | 1 | 2 | 3 | 4 | 5 | 8 | 9 | 10 => exact .inl z
      | 6 | 7 => cases z; exact .inr ⟨rfl, rfl⟩
      | t + 11 => exact .inl z
theorem ctr_paired {d e : Val} {a b : List Int × List Val} (ca : Canon a.1 a.2) (cb : Canon b.1 b.2) (ha : a.1.length ≤ 100) (hb : b.1.length ≤ 100) {ps : List Int} {pv : List (Val × Val)} (hB : ∀ st vs, Built st vs 1114112 (pairAt a b) → st = ps ∧ vs = pv) :
    Ctr (KK w) p w (n + 3) (.ref 300) [RMv d a.1 a.2, RMv e b.1 b.2] true (RM (.tuple [d.v, e.v]) ps (pv.map gP)) :=
  ctrB ["found", "at", "beside", "code", "starts", "values", "pair", "ahead", "other"] D_paired S_paired (paired_tr ca cb ha hb hB)
end Mine

-- Q17
namespace Mine
variable {K : Frag} {p : Program} {w : World} {n : Nat} {sc : Scope} {cm : Bool} {xs : List Str}

/-! the law's lists -/
noncomputable def spots : List Int := [0, 1, 2, 3, 4, 5, 6, 7, 8, 9, 10, 11, 12, 13, 14, 15, 1114108, 1114109, 1114110, 1114111]
noncomputable def asked : List Int := [0, 1, 3, 6, 9, 14, 15, 16, 20480, 1114107, 1114108, 1114110, 1114111]
noncomputable def intsB (vs : List Value) (l : List Int) : Bool := match vs, l with
  | [], [] => true
  | .int i _ :: vs, j :: l => i == j && intsB vs l
  | _, _ => false
theorem ints_rep {h : Heap} {X : Addr → Prop} : ∀ {vs : List Value} {l : List Int}, intsB vs l = true → RepL h X vs (l.map .int)
  | [], [], _ => .nil
  | .int i _ :: vs, j :: l, q => by
    rw [intsB, Bool.and_eq_true] at q
    have := eq_of_beq q.1
    subst this
    exact .cons (.int _ _) (ints_rep q.2)
  | [], _ :: _, q => by exact ff q
  | .int i _ :: vs, [], q => by exact ff q
noncomputable def listB (K : Frag) (a : Addr) (l : List Int) : Bool := match K.lookup a with
  | some ⟨.type c, _, .seq vs _, _⟩ => c == "list" && intsB vs.toList l
  | _ => false
theorem Live.avK {h : Heap} {X : Addr → Prop} (lv : Live K X h) (wd : Wd K h) {a : Addr} {o : Obj} (e : K.lookup a = some o) : Av X a := by
  refine ⟨fun q => ?_, fun q => ?_, fun q => ?_⟩
  · have := (lv.b.2.2 a q).2; rw [e] at this; exact nn this.symm
  · subst q; have := wd.off.1; rw [e] at this; exact nn this.symm
  · subst q; have := wd.off.2; rw [e] at this; exact nn this.symm
theorem Evs.glist {ρ : List (Option V)} {x : Str} {pos : Pos} {a : Addr} {l : List Int} (e : nsIn (KK w) mainGlobals x = some (some (.ref a))) (hl : listB (KK w) a l = true) (hk : sc.names.lookup x = some .globalImplicit := by rfl) (h1 : (x == ("__debug__" : Str)) = false := by rfl) : Evs (KK w) p w n sc xs ρ (.Name x pos) false (.ints l) :=
  .gname hk e (fun h X wd lv => by
    unfold listB at hl
    split at hl
    · rename_i c _ vs k _ q
      rw [Bool.and_eq_true] at hl
      have := eq_of_beq hl.1
      subst this
      exact .list (wd.k _ _ q) rfl rfl (lv.avK wd q) (ints_rep hl.2)
    · exact ff hl) h1
theorem Evs.spots {ρ : List (Option V)} {pos : Pos} (hk : sc.names.lookup ("_law_spots" : Str) = some .globalImplicit := by rfl) : Evs (KK w) p w n sc xs ρ (.Name "_law_spots" pos) false (.ints spots) := .glist (a := 301) (by kernel_rfl) (by kernel_rfl) hk (by rfl)
inductive IntEs : List Expr → List Int → Prop
  | nil : IntEs [] []
  | cons (i : Int) (k : Nat) (pos : Pos) {es : List Expr} {l : List Int} : IntEs es l → IntEs (.Constant (.int i) k pos :: es) (i :: l)
theorem evl_ints {ρ : List (Option V)} {es : List Expr} {l : List Int} (h : IntEs es l) : EvL K p w n sc xs ρ es (l.map .int) := by
  induction h with
  | nil => exact .nil
  | cons i k pos _ ih => exact .cons .int ih
noncomputable def retOf : Stmt → List Expr × Pos × Pos
  | .FunctionDef _ _ [.Return (some (.List es q)) q2] .. => (es, q, q2)
  | _ => ([], default, default)
theorem askedB : bodyOf (topAt 29) = [.Return (some (.List (retOf (topAt 29)).1 (retOf (topAt 29)).2.1)) (retOf (topAt 29)).2.2] := by kernel_rfl
theorem askedE : IntEs (retOf (topAt 29)).1 asked := .cons _ _ _ (.cons _ _ _ (.cons _ _ _ (.cons _ _ _ (.cons _ _ _ (.cons _ _ _ (.cons _ _ _ (.cons _ _ _ (.cons _ _ _ (.cons _ _ _ (.cons _ _ _ (.cons _ _ _ (.cons _ _ _ .nil))))))))))))
theorem ctr_asked : Ctr (KK w) p w (n + 1) (.ref 308) [] true (.ints asked) := by
  refine ctrB [] (cm := true) (xs := []) D_asked S_asked ?_
  unfold Body
  rw [askedB]
  have h := askedE
  generalize (retOf (topAt 29)).1 = es at h ⊢
  exact .retNew (.list (evl_ints h)) ⟨rfl, fun h => h⟩
/-! _law_runs -/
noncomputable def runStep (f : List (Int × Int)) (c : Int) : List (Int × Int) := match f[f.length - 1]? with
  | some q => if q.2 + 1 = c then f.set (f.length - 1) (q.1, c) else f ++ [(c, c)]
  | none => f ++ [(c, c)]
noncomputable def runsOf (l : List Int) : List (Int × Int) := l.foldl runStep []
theorem runStep_length (f : List (Int × Int)) (c : Int) : (runStep f c).length ≤ f.length + 1 := by
  unfold runStep
  split
  · split <;> simp
  · simp
theorem foldR_length : ∀ (l : List Int) (f : List (Int × Int)), (l.foldl runStep f).length ≤ f.length + l.length
  | [], f => by simp
  | c :: l, f => by
    have h1 := foldR_length l (runStep f c)
    have h2 := runStep_length f c
    simp only [List.foldl_cons, List.length_cons]
    omega
theorem runs_tr {l : List Int} (hz : l.length ≤ 1000) : Body w p n (topAt 30) true ["codes", "found", "code"] [.ints l] 2 true (.list ((runsOf l).map gp)) := by
  refine .andThen (ρ' := [fz (.ints l), ow (.list []), none]) (.set 1 (Rhs.newList (.list .nil) rfl)) ?_
  refine .cons (Tr1.for (ds := l.map .int) (fun j ρ => ∃ x, ρ = [fz (.ints l), ow (.list ((runsOf (l.take j)).map gp)), x]) (.list (fr := false) (.nm 0)) ⟨none, rfl⟩ ?_) ?_
  · rintro j e ρ hd ⟨x, rfl⟩
    rw [List.getElem?_map, Option.map_eq_some_iff] at hd
    obtain ⟨c, hc, rfl⟩ := hd
    have hj := (List.getElem?_eq_some_iff.mp hc).1
    have hlen : (runsOf (l.take j)).length ≤ 1000 := by
      have := foldR_length (l.take j) []
      have h2 : (l.take j).length ≤ j := List.length_take_le ..
      unfold runsOf
      simp at this h2 ⊢; omega
    have next : runsOf (l.take (j + 1)) = runStep (runsOf (l.take j)) c := by
      unfold runsOf; rw [foldl_take _ _ _ hc]
    rw [next]
    generalize runsOf (l.take j) = f at *
    refine ⟨_, .name (i := 2) rfl (.inl rfl), ?_⟩
    show Tr _ _ _ _ _ _ _ [fz (.ints l), ow (.list (f.map gp)), fz (.int c)] _ _ _
    cases hl : f[f.length - 1]? with
    | none =>
      have hf0 : f = [] := by
        cases f with
        | nil => rfl
        | cons x f => simp at hl
      subst hf0
      refine .cons (Tr1.ife (b := false) (.and (.no (.cast (.cmp (cmp_neP [] []) (.nm 1) (.list (fr := false) .nil)) rfl))) (fun h => by exact ff h) fun _ => ?_) (fun ρ' q => .nil q)
      refine .cons (.app 1 (ds := []) (.tup (.tuple (.cons (.nm 2) (.cons (.nm 2) .nil))) rfl) (by simp)) ?_
      rintro ρ rfl
      exact .nil ⟨fz (.int c), rfl⟩
    | some q =>
      have hf0 : 0 < f.length := by have := (List.getElem?_eq_some_iff.mp hl).1; omega
      have hne : (!decide (f = [])) = true := by
        cases f with
        | nil => simp at hf0
        | cons x f => simp
      have g1 : -((f.map gp).length : Int) ≤ -1 := by rw [List.length_map]; omega
      have g2 : (f.map gp)[((-1 : Int) + ((f.map gp).length : Int)).toNat]? = some (gp q) := by
        rw [List.length_map, show ((-1 : Int) + (f.length : Int)).toNat = f.length - 1 by omega, List.getElem?_map, hl]; rfl
      refine .cons (Tr1.ife (b := q.2 + 1 == c) (.cast (.and (.c (.cast (.cmp (cmp_neP f []) (.nm 1) (.list (fr := false) .nil)) hne) fun _ => .c (.cmp cmp_eqInt (.add (.itemT (.itemNeg (.nm 1) (.neg .int) (by decide) (by decide) g1 g2) .int (by decide) (by decide) rfl) .int) (.nm 2)) fun _ => .nil)) (by simp)) (fun h => ?_) fun h => ?_) (fun ρ' q => .nil q)
      · have h : q.2 + 1 = c := by simpa using h
        have e : runStep f c = f.set (f.length - 1) (q.1, c) := by unfold runStep; rw [hl]; simp only [h, if_true]
        rw [e]
        refine .cons (Tr1.setL (ds := f.map gp) (d := gp (q.1, c)) 1 (.tup (.tuple (.cons (.itemT (.itemNeg (.nm 1) (.neg .int) (by decide) (by decide) g1 g2) .int (by decide) (by decide) rfl) (.cons (.nm 2) .nil))) rfl) (by rw [List.length_map]; exact hf0)) ?_
        rintro ρ' rfl
        refine .nil ⟨fz (.int c), ?_⟩
        show [_, _, _] = [_, _, _]
        rw [List.length_map, List.map_set]
      · have h : ¬ q.2 + 1 = c := by simpa using h
        have e : runStep f c = f ++ [(c, c)] := by unfold runStep; rw [hl]; simp only [h, if_false]
        rw [e]
        refine .cons (.app 1 (ds := f.map gp) (.tup (.tuple (.cons (.nm 2) (.cons (.nm 2) .nil))) rfl) (by rw [List.length_map]; omega)) ?_
        rintro ρ' rfl
        refine .nil ⟨fz (.int c), ?_⟩
        show [_, _, _] = [_, _, _]
        rw [List.map_append]; rfl
  · rintro ρ ⟨x, rfl⟩
    refine .retOwn 1 ⟨?_, fun h => h⟩
    rw [List.length_map, List.take_length]
theorem ctr_runs {l : List Int} (hz : l.length ≤ 1000) : Ctr (KK w) p w (n + 1) (.ref 315) [.ints l] true (.list ((runsOf l).map gp)) :=
  ctrB ["found", "code"] D_runs S_runs (runs_tr hz)
end Mine

-- L4
namespace Mine

/-! plain: sets by their bounds -/
noncomputable def inB (b : List Int) (x : Int) : Bool := cnt b x % 2 == 1
theorem asc_nil : Asc [] := List.Pairwise.nil
theorem asc_cons {a : Int} {l : List Int} : Asc (a :: l) ↔ (∀ b ∈ l, a < b) ∧ Asc l := List.pairwise_cons
theorem cnt_step {l : List Int} (h : Asc l) (x : Int) : cnt l x = cnt l (x - 1) + if x ∈ l then 1 else 0 := by
  induction l with
  | nil => simp [cnt_nil]
  | cons a l ih =>
    obtain ⟨h1, h2⟩ := asc_cons.mp h
    have := ih h2
    rw [cnt_cons, cnt_cons, this]
    by_cases q : x = a
    · subst q
      have nl : x ∉ l := fun z => by have := h1 x z; omega
      rw [if_neg nl, if_pos (Int.le_refl _), if_neg (by omega : ¬ x ≤ x - 1), if_pos (by simp)]
      omega
    · have : (x ∈ a :: l) = (x ∈ l) := by simp [q]
      simp only [this]
      by_cases q1 : a ≤ x
      · rw [if_pos q1, if_pos (by omega : a ≤ x - 1)]; omega
      · rw [if_neg q1, if_neg (by omega : ¬ a ≤ x - 1)]; omega
theorem mem_inB {l : List Int} (h : Asc l) (x : Int) : x ∈ l ↔ inB l x ≠ inB l (x - 1) := by
  unfold inB
  rw [cnt_step h x]
  by_cases q : x ∈ l
  · simp only [q, if_true, true_iff, ne_eq]
    intro z
    rw [Bool.eq_iff_iff] at z
    simp at z
    omega
  · simp [q]
theorem inB_ext {a b : List Int} (ha : Asc a) (hb : Asc b) (h : ∀ x, inB a x = inB b x) : a = b :=
  Asc.ext ha hb fun x => by rw [mem_inB ha, mem_inB hb, h, h]
theorem inB_empty {o : List Int} (h : Asc o) : o = [] ↔ ∀ x, inB o x = false := by
  constructor
  · intro e x; subst e; rfl
  · intro z
    cases o with
    | nil => rfl
    | cons y r =>
      have := z y
      obtain ⟨h1, h2⟩ := asc_cons.mp h
      unfold inB at this
      rw [cnt_cons, if_pos (Int.le_refl _), cnt_low h1] at this
      cases this
theorem inB_nil (x : Int) : inB [] x = false := rfl
theorem inB_append (a b : List Int) (x : Int) : inB (a ++ b) x = xor (inB a x) (inB b x) := by
  unfold inB
  rw [cnt_append]
  rcases Nat.mod_two_eq_zero_or_one (cnt a x) with h1 | h1 <;> rcases Nat.mod_two_eq_zero_or_one (cnt b x) with h2 | h2 <;> simp [Nat.add_mod, h1, h2]
theorem inB_one (a x : Int) : inB [a] x = decide (a ≤ x) := by
  unfold inB
  rw [cnt_cons, cnt_nil]
  by_cases q : a ≤ x <;> simp [q]
theorem inB_cons (a : Int) (l : List Int) (x : Int) : inB (a :: l) x = xor (decide (a ≤ x)) (inB l x) := by
  have := inB_append [a] l x
  rw [inB_one] at this
  exact this
theorem inB_all {b : List Int} {x : Int} (h : ∀ a ∈ b, a ≤ x) : inB b x = (b.length % 2 == 1) := by unfold inB; rw [cnt_high h]
theorem inB_low {b : List Int} {x : Int} (h : ∀ a ∈ b, x < a) : inB b x = false := by unfold inB; rw [cnt_low h]; rfl

/-! the bounds of a list of codes -/
structure Bds (f : List Int) (S : Int → Prop) : Prop where
  asc : Asc f
  even : f.length % 2 = 0
  mem : ∀ x, inB f x = true ↔ S x
theorem Bds.uniq {f g : List Int} {S T : Int → Prop} (a : Bds f S) (b : Bds g T) (h : ∀ x, S x ↔ T x) : f = g :=
  inB_ext a.asc b.asc fun x => by rw [Bool.eq_iff_iff, a.mem, b.mem, h]
theorem snoc_cases {α : Type} (l : List α) : l = [] ∨ ∃ g x, l = g ++ [x] := by
  cases l with
  | nil => exact .inl rfl
  | cons a l => exact .inr ⟨(a :: l).dropLast, (a :: l).getLast (by simp), (List.dropLast_concat_getLast (by simp)).symm⟩
theorem snoc_last {α : Type} (g : List α) (x : α) : (g ++ [x])[(g ++ [x]).length - 1]? = some x := by simp
theorem snoc_set {α : Type} (g : List α) (x y : α) : (g ++ [x]).set ((g ++ [x]).length - 1) y = g ++ [y] := by simp
theorem Bds.nil : Bds [] (fun _ => False) := ⟨asc_nil, rfl, fun x => by simp [inB_nil]⟩
theorem Bds.lastIn {g : List Int} {l : Int} {S : Int → Prop} (h : Bds (g ++ [l]) S) : S (l - 1) := by
  have hp := List.pairwise_append.mp h.asc
  have e := h.even
  rw [List.length_append] at e
  simp at e
  rw [← h.mem, inB_append, inB_one, inB_all (fun a ha => by have := hp.2.2 a ha l (by simp); omega)]
  have : ¬ l ≤ l - 1 := by omega
  simp [this]
  omega
theorem bStep_spec {f : List Int} {S : Int → Prop} {c : Int} (h : Bds f S) (hS : ∀ s, S s → s ≤ c) : Bds (bStep f c) (fun x => S x ∨ x = c) := by
  have even := h.even
  have tail : (∀ a ∈ f, a < c) → Bds (f ++ [c, c + 1]) (fun x => S x ∨ x = c) := by
    intro hf
    refine ⟨asc_append h.asc (asc_cons.mpr ⟨by simp; omega, by simp [Asc]⟩) (fun a ha b hb => ?_), by simp; omega, fun x => ?_⟩
    · have := hf a ha
      simp at hb; omega
    · rw [inB_append, inB_cons, inB_one]
      have hx := h.mem x
      by_cases q : x = c
      · subst q
        have e : inB f x = false := by rw [inB_all (fun a ha => by have := hf a ha; omega), even]; rfl
        have : ¬ x + 1 ≤ x := by omega
        simp [e, this]
      · have : decide (c ≤ x) = decide (c + 1 ≤ x) := by rw [decide_eq_decide]; omega
        rw [this]
        simp [q, hx]
  rcases snoc_cases f with rfl | ⟨g, l, rfl⟩
  · exact tail (by simp)
  · have hp := List.pairwise_append.mp h.asc
    have hl := hS _ h.lastIn
    have hg : ∀ a ∈ g, a < l := fun a ha => hp.2.2 a ha l (by simp)
    unfold bStep
    rw [snoc_last]
    dsimp only
    split
    · rename_i q
      rw [snoc_set]
      by_cases q1 : c = l
      · subst q1
        rw [if_pos (by omega)]
        refine ⟨asc_append hp.1 (List.pairwise_singleton ..) (fun a ha b hb => by have := hg a ha; simp at hb; omega), by simp at even ⊢; omega, fun x => ?_⟩
        have hx := h.mem x
        rw [inB_append, inB_one] at hx ⊢
        by_cases q2 : x = c
        · subst q2
          have e : inB g x = true := by rw [inB_all (fun a ha => by have := hg a ha; omega)]; simp at even ⊢; omega
          have : ¬ x + 1 ≤ x := by omega
          simp [e, this]
        · have : decide (c ≤ x) = decide (c + 1 ≤ x) := by rw [decide_eq_decide]; omega
          rw [← this]
          simp only [q2, or_false]
          exact hx
      · rw [if_neg (by omega)]
        refine ⟨h.asc, h.even, fun x => ?_⟩
        rw [h.mem]
        constructor
        · exact .inl
        · rintro (z | z)
          · exact z
          · have : c = l - 1 := by omega
            subst z; rw [this]; exact h.lastIn
    · rename_i q
      refine tail fun a ha => ?_
      rcases List.mem_append.mp ha with z | z
      · have := hg a z; omega
      · simp at z; omega
theorem foldB_spec : ∀ (l : List Int) (f : List Int) (S : Int → Prop), Bds f S → l.Pairwise (· ≤ ·) → (∀ s c, S s → c ∈ l → s ≤ c) → Bds (l.foldl bStep f) (fun x => S x ∨ x ∈ l)
  | [], f, S, h, _, _ => ⟨h.asc, h.even, fun x => by rw [List.foldl_nil, h.mem]; simp⟩
  | c :: l, f, S, h, hp, hs => by
    obtain ⟨p1, p2⟩ := List.pairwise_cons.mp hp
    have := foldB_spec l (bStep f c) _ (bStep_spec h fun s q => hs s c q (by simp)) p2 (fun s d q hd => by
      rcases q with q | rfl
      · exact hs s d q (List.mem_cons_of_mem _ hd)
      · exact p1 d hd)
    refine ⟨this.asc, this.even, fun x => ?_⟩
    rw [List.foldl_cons, this.mem, List.mem_cons, or_assoc]
theorem bounds_spec (cs : List Int) : Bds (boundsOf cs) (· ∈ cs) := by
  have := foldB_spec (sortI cs) [] _ Bds.nil (sortI_asc cs) (fun s c q => q.elim)
  refine ⟨this.asc, this.even, fun x => ?_⟩
  unfold boundsOf
  rw [this.mem, (sortI_perm cs).mem_iff]
  simp
theorem bounds_length (cs : List Int) : (boundsOf cs).length ≤ 2 * cs.length := by
  have := foldB_length (sortI cs) []
  rw [(sortI_perm cs).length_eq] at this
  simpa [boundsOf] using this

/-! merged -/
theorem hT_spec {l : List Int} {c : Int} (hl : Asc l) (hc : ∀ y ∈ l, c ≤ y) (a : Bool) : Asc (hT l (hU l c)) ∧ (∀ y ∈ hT l (hU l c), c < y ∧ y ∈ l) ∧ ∀ x, xor a (inB l x) = if c ≤ x then xor (xor a (hU l c)) (inB (hT l (hU l c)) x) else a := by
  cases l with
  | nil => exact ⟨hl, fun y hy => (List.not_mem_nil hy).elim, fun x => by rw [show hU [] c = false from rfl, Bool.xor_false]; split; rfl; exact Bool.xor_false _⟩
  | cons z l =>
    obtain ⟨h1, h2⟩ := asc_cons.mp hl
    have hz := hc z (List.mem_cons_self ..)
    by_cases q : z = c
    · subst q
      have e : hU (z :: l) z = true := beq_self_eq_true z
      rw [e]
      refine ⟨h2, fun y hy => ⟨h1 y hy, List.mem_cons_of_mem _ hy⟩, fun x => ?_⟩
      rw [inB_cons, ← Bool.xor_assoc]
      by_cases q : z ≤ x
      · rw [if_pos q, decide_eq_true q]; rfl
      · rw [if_neg q, decide_eq_false q, inB_low fun y hy => Int.lt_trans (Int.not_le.mp q) (h1 y hy), Bool.xor_false, Bool.xor_false]
    · have e : hU (z :: l) c = false := beq_eq_false_iff_ne.mpr q
      rw [e]
      have lt : ∀ y ∈ z :: l, c < y := fun y hy => by
        rcases List.mem_cons.mp hy with r | r
        · omega
        · have := h1 y r; omega
      refine ⟨hl, fun y hy => ⟨lt y hy, hy⟩, fun x => ?_⟩
      rw [Bool.xor_false]
      split
      · rfl
      · rename_i q
        rw [inB_low fun y hy => Int.lt_trans (Int.not_le.mp q) (lt y hy), Bool.xor_false]
theorem put_spec {c : Int} {o : List Int} (ho : Asc o) (hc : ∀ y ∈ o, c < y) (s t : Bool) : Asc ((if t = s then [] else [c]) ++ o) ∧ (∀ y ∈ (if t = s then [] else [c]) ++ o, y = c ∨ y ∈ o) ∧ ∀ x, xor s (inB ((if t = s then [] else [c]) ++ o) x) = if c ≤ x then xor t (inB o x) else s := by
  have low : ∀ x, ¬ c ≤ x → inB o x = false := fun x q => inB_low fun a ha => Int.lt_trans (Int.not_le.mp q) (hc a ha)
  by_cases e : t = s
  · rw [if_pos e, e]
    refine ⟨ho, fun y hy => .inr hy, fun x => ?_⟩
    rw [List.nil_append]
    split
    · rfl
    · rename_i q
      rw [low x q, Bool.xor_false]
  · rw [if_neg e]
    refine ⟨asc_cons.mpr ⟨hc, ho⟩, fun y hy => List.mem_cons.mp hy, fun x => ?_⟩
    rw [List.singleton_append, inB_cons, ← Bool.xor_assoc]
    by_cases q : c ≤ x
    · rw [if_pos q, decide_eq_true q]
      cases s <;> cases t <;> first | rfl | exact absurd rfl e
    · rw [if_neg q, decide_eq_false q, low x q, Bool.xor_false, Bool.xor_false]
theorem hC_spec {l m : List Int} (h : ¬ (l.isEmpty && m.isEmpty) = true) (hl : Asc l) (hm : Asc m) : (hC l m ∈ l ∨ hC l m ∈ m) ∧ (∀ y ∈ l, hC l m ≤ y) ∧ ∀ y ∈ m, hC l m ≤ y := by
  have low : ∀ {x : Int} {l : List Int}, Asc (x :: l) → ∀ y ∈ x :: l, x ≤ y := fun h y hy => (List.mem_cons.mp hy).elim (fun e => Int.le_of_eq e.symm) fun e => Int.le_of_lt ((asc_cons.mp h).1 y e)
  cases l with
  | nil =>
    cases m with
    | nil => exact absurd rfl h
    | cons y m => exact ⟨.inr (List.mem_cons_self ..), fun _ z => (List.not_mem_nil z).elim, low hm⟩
  | cons x l =>
    cases m with
    | nil => exact ⟨.inl (List.mem_cons_self ..), low hl, fun _ z => (List.not_mem_nil z).elim⟩
    | cons y m =>
      by_cases q : x ≤ y
      · rw [show hC (x :: l) (y :: m) = x from if_pos (decide_eq_true q)]
        exact ⟨.inl (List.mem_cons_self ..), low hl, fun z hz => Int.le_trans q (low hm z hz)⟩
      · rw [show hC (x :: l) (y :: m) = y from if_neg fun z => q (of_decide_eq_true z)]
        exact ⟨.inr (List.mem_cons_self ..), fun z hz => Int.le_trans (Int.le_of_lt (Int.not_le.mp q)) (low hl z hz), low hm⟩
theorem hT_length (l : List Int) (u : Bool) : (hT l u).length = l.length - u.toNat := by cases u; rfl; exact List.length_tail
theorem hU_some (l m : List Int) (h : ¬ (l.isEmpty && m.isEmpty) = true) : hU l (hC l m) = true ∨ hU m (hC l m) = true := by
  unfold hU hC
  cases l with
  | nil =>
    cases m with
    | nil => exact absurd rfl h
    | cons y m => exact .inr (beq_self_eq_true y)
  | cons x l =>
    cases m with
    | nil => exact .inl (beq_self_eq_true x)
    | cons y m =>
      by_cases q : x ≤ y
      · exact .inl (beq_iff_eq.mpr (if_pos (decide_eq_true q)).symm)
      · exact .inr (beq_iff_eq.mpr (if_neg fun z => q (of_decide_eq_true z)).symm)
theorem merge_one {f : Bool → Bool → Bool} {l m l' m' o : List Int} {a b s a' b' : Bool} {c : Int} (hs : s = f a b) (c1 : c ∈ l ∨ c ∈ m) (a2 : ∀ y ∈ l', c < y ∧ y ∈ l) (a3 : ∀ x, xor a (inB l x) = if c ≤ x then xor a' (inB l' x) else a) (b2 : ∀ y ∈ m', c < y ∧ y ∈ m) (b3 : ∀ x, xor b (inB m x) = if c ≤ x then xor b' (inB m' x) else b)
    (i : Asc o ∧ (∀ y ∈ o, y ∈ l' ∨ y ∈ m') ∧ ∀ x, xor (f a' b') (inB o x) = f (xor a' (inB l' x)) (xor b' (inB m' x))) :
    Asc ((if f a' b' = s then [] else [c]) ++ o) ∧ (∀ y ∈ (if f a' b' = s then [] else [c]) ++ o, y ∈ l ∨ y ∈ m) ∧ ∀ x, xor s (inB ((if f a' b' = s then [] else [c]) ++ o) x) = f (xor a (inB l x)) (xor b (inB m x)) := by
  obtain ⟨i1, i2, i3⟩ := i
  obtain ⟨k1, k2, k3⟩ := put_spec i1 (fun y hy => (i2 y hy).elim (fun q => (a2 y q).1) fun q => (b2 y q).1) s (f a' b')
  refine ⟨k1, fun y hy => (k2 y hy).elim (fun q => q ▸ c1) fun q => (i2 y q).imp (fun q => (a2 y q).2) fun q => (b2 y q).2, fun x => ?_⟩
  rw [k3, i3, a3, b3]
  split
  · rfl
  · exact hs
theorem hT_less {l m : List Int} {k : Nat} (hk : l.length + m.length ≤ k + 1) (h : ¬ (l.isEmpty && m.isEmpty) = true) : (hT l (hU l (hC l m))).length + (hT m (hU m (hC l m))).length ≤ k := by
  have pos : ∀ (l : List Int) (c : Int), hU l c = true → 0 < l.length := fun l c e => List.length_pos_iff.mpr fun z => by rw [z] at e; exact ff e
  rw [hT_length, hT_length]
  rcases hU_some l m h with e | e
  · have := pos _ _ e
    rw [e]; show _ - 1 + _ ≤ _; omega
  · have := pos _ _ e
    rw [e]; show _ + (_ - 1) ≤ _; omega
theorem mergeGo_spec (f : Bool → Bool → Bool) (k : Nat) : ∀ (l m : List Int) (a b s : Bool), l.length + m.length ≤ k → s = f a b → Asc l → Asc m →
    Asc (mergeGo f k l m a b s) ∧ (∀ y ∈ mergeGo f k l m a b s, y ∈ l ∨ y ∈ m) ∧ ∀ x, xor s (inB (mergeGo f k l m a b s) x) = f (xor a (inB l x)) (xor b (inB m x)) := by
  induction k with
  | zero =>
    intro l m a b s hk hs _ _
    obtain rfl : l = [] := List.eq_nil_of_length_eq_zero (by omega)
    obtain rfl : m = [] := List.eq_nil_of_length_eq_zero (by omega)
    exact ⟨asc_nil, fun y hy => (List.not_mem_nil hy).elim, fun x => by rw [inB_nil, Bool.xor_false, Bool.xor_false, ← hs]; exact Bool.xor_false s⟩
  | succ k ih =>
    intro l m a b s hk hs hl hm
    rw [mergeGo]
    split
    · rename_i h
      rw [Bool.and_eq_true, List.isEmpty_iff, List.isEmpty_iff] at h
      rw [h.1, h.2]
      exact ⟨asc_nil, fun y hy => (List.not_mem_nil hy).elim, fun x => by rw [inB_nil, Bool.xor_false, Bool.xor_false, Bool.xor_false, ← hs]⟩
    · rename_i h
      obtain ⟨c1, c2, c3⟩ := hC_spec h hl hm
      obtain ⟨a1, a2, a3⟩ := hT_spec hl c2 a
      obtain ⟨b1, b2, b3⟩ := hT_spec hm c3 b
      exact merge_one hs c1 a2 a3 b2 b3 (ih _ _ _ _ _ (hT_less hk h) rfl a1 b1)
theorem merge_spec {f : Bool → Bool → Bool} (hf : f false false = false) {a b : List Int} {S T : Int → Prop} (ha : Bds a S) (hb : Bds b T) (x : Int) : inB (mergeB f a b) x = f (inB a x) (inB b x) := by
  have := (mergeGo_spec f _ a b false false false (Nat.le_refl _) hf.symm ha.asc hb.asc).2.2 x
  simpa [mergeB] using this
theorem merge_asc {f : Bool → Bool → Bool} (hf : f false false = false) {a b : List Int} (ha : Asc a) (hb : Asc b) : Asc (mergeB f a b) := (mergeGo_spec f _ a b false false false (Nat.le_refl _) hf.symm ha hb).1
theorem merge_mem {f : Bool → Bool → Bool} (hf : f false false = false) {a b : List Int} (ha : Asc a) (hb : Asc b) : ∀ y ∈ mergeB f a b, y ∈ a ∨ y ∈ b := (mergeGo_spec f _ a b false false false (Nat.le_refl _) hf.symm ha hb).2.1
theorem exists_above : ∀ l : List Int, ∃ x, ∀ a ∈ l, a ≤ x
  | [] => ⟨0, by simp⟩
  | a :: l => by
    obtain ⟨x, hx⟩ := exists_above l
    refine ⟨if a ≤ x then x else a, fun b hb => ?_⟩
    rcases List.mem_cons.mp hb with q | q
    · split <;> omega
    · have := hx b q
      split <;> omega
theorem merge_bds {f : Bool → Bool → Bool} (hf : f false false = false) {a b : List Int} {S T : Int → Prop} (ha : Bds a S) (hb : Bds b T) : Bds (mergeB f a b) (fun x => f (inB a x) (inB b x) = true) := by
  refine ⟨merge_asc hf ha.asc hb.asc, ?_, fun x => by rw [merge_spec hf ha hb]⟩
  obtain ⟨x, hx⟩ := exists_above (a ++ b ++ mergeB f a b)
  have h1 := merge_spec hf ha hb x
  rw [inB_all (fun y hy => hx y (by simp [hy])), inB_all (b := a) (fun y hy => hx y (by simp [hy])), inB_all (b := b) (fun y hy => hx y (by simp [hy])), ha.even, hb.even] at h1
  have : f (0 == 1) (0 == 1) = false := hf
  rw [this] at h1
  simp at h1
  omega
end Mine

-- L5
namespace Mine

/-! plain: ranges and codes -/
theorem even_ind {P : List Int → Prop} (h0 : P []) (h2 : ∀ x y r, r.length % 2 = 0 → P r → P (x :: y :: r)) : ∀ b : List Int, b.length % 2 = 0 → P b
  | [], _ => h0
  | [x], h => by simp at h
  | x :: y :: r, h => h2 x y r (by simp at h; omega) (even_ind h0 h2 r (by simp at h; omega))
theorem rangesOf_nil : rangesOf [] = [] := rfl
theorem rangesOf_cons (x y : Int) (r : List Int) : rangesOf (x :: y :: r) = (x, y - 1) :: rangesOf r := by
  unfold rangesOf
  rw [show (x :: y :: r).length / 2 = r.length / 2 + 1 by simp only [List.length_cons]; omega, List.range_succ_eq_map, List.map_cons, List.map_map]
  congr 1
theorem rInts_succ (a : Int) (m : Nat) : rInts a 1 (m + 1) = rInts a 1 m ++ [a + m] := by
  unfold rInts
  rw [List.range_succ, List.map_append]; simp
theorem rInts_mem {a v : Int} {m : Nat} : v ∈ rInts a 1 m ↔ a ≤ v ∧ v < a + m := by
  unfold rInts
  simp only [List.mem_map, List.mem_range]
  constructor
  · rintro ⟨k, hk, rfl⟩; omega
  · intro h; exact ⟨(v - a).toNat, by omega, by omega⟩
theorem rInts_asc (a : Int) : ∀ m : Nat, Asc (rInts a 1 m)
  | 0 => asc_nil
  | m + 1 => by
    rw [rInts_succ]
    refine asc_append (rInts_asc a m) (List.pairwise_singleton ..) fun x hx y hy => ?_
    have := rInts_mem.mp hx
    simp at hy; omega
theorem rInts_cnt (a v : Int) : ∀ m : Nat, cnt (rInts a 1 m) v = min m (v + 1 - a).toNat
  | 0 => by simp [rInts, cnt_nil]
  | m + 1 => by
    rw [rInts_succ, cnt_append, rInts_cnt a v m, cnt_cons, cnt_nil]
    split <;> omega
theorem runI_mem {q : Int × Int} {v : Int} : v ∈ runI q ↔ q.1 ≤ v ∧ v ≤ q.2 := by
  unfold runI
  rw [rInts_mem]; omega
theorem codesOf_cons (q : Int × Int) (r : List (Int × Int)) : codesOf (q :: r) = runI q ++ codesOf r := by unfold codesOf; rw [List.flatMap_cons]
theorem inB_ge {b : List Int} {x : Int} (h : inB b x = true) : ∃ a ∈ b, a ≤ x := by
  refine Decidable.byContradiction fun z => ?_
  have := inB_low (b := b) (x := x) fun a ha => by
    refine Decidable.byContradiction fun q => z ⟨a, ha, by omega⟩
  rw [this] at h; exact ff h
theorem codes_spec : ∀ b : List Int, b.length % 2 = 0 → Asc b → Asc (codesOf (rangesOf b)) ∧ ∀ v, v ∈ codesOf (rangesOf b) ↔ inB b v = true := by
  refine even_ind (fun _ => ⟨asc_nil, fun v => by simp [rangesOf_nil, codesOf, inB_nil]⟩) fun x y r hr ih hb => ?_
  obtain ⟨h1, h2⟩ := asc_cons.mp hb
  obtain ⟨h3, h4⟩ := asc_cons.mp h2
  obtain ⟨i1, i2⟩ := ih h4
  have hxy : x < y := h1 y (by simp)
  rw [rangesOf_cons, codesOf_cons]
  refine ⟨asc_append (rInts_asc _ _) i1 fun u hu v hv => ?_, fun v => ?_⟩
  · have hu := runI_mem.mp hu
    obtain ⟨a, ha, ha'⟩ := inB_ge ((i2 v).mp hv)
    have := h3 a ha
    dsimp only at hu; omega
  · rw [List.mem_append, runI_mem, i2, inB_cons, inB_cons]
    dsimp only
    by_cases q1 : x ≤ v <;> by_cases q2 : y ≤ v
    · simp [q1, q2]; omega
    · have : inB r v = false := inB_low fun a ha => by have := h3 a ha; omega
      simp [q1, q2, this]; omega
    · omega
    · have : inB r v = false := inB_low fun a ha => by have := h3 a ha; omega
      simp [q1, q2, this]
theorem num_spec (code : Int) : ∀ b : List Int, b.length % 2 = 0 → Asc b → ∀ f : Int, numGo code (rangesOf b) f = f + (cnt (codesOf (rangesOf b)) (code - 1) : Int) := by
  refine even_ind (fun _ f => by simp [rangesOf_nil, numGo, codesOf, cnt_nil]) fun x y r hr ih hb f => ?_
  obtain ⟨h1, h2⟩ := asc_cons.mp hb
  obtain ⟨h3, h4⟩ := asc_cons.mp h2
  have hxy : x < y := h1 y (by simp)
  obtain ⟨c1, c2⟩ := codes_spec r hr h4
  have low : ∀ v ∈ codesOf (rangesOf r), y < v := fun v hv => by
    obtain ⟨a, ha, ha'⟩ := inB_ge ((c2 v).mp hv)
    have := h3 a ha; omega
  rw [rangesOf_cons, codesOf_cons, numGo, cnt_append, ih h4]
  have e : cnt (runI (x, y - 1)) (code - 1) = min (y - x).toNat (code - x).toNat := by
    unfold runI
    rw [rInts_cnt]
    dsimp only
    rw [show y - 1 + 1 - x = y - x by omega, show code - 1 + 1 - x = code - x by omega]
  rw [e]
  split
  · rename_i q
    rw [cnt_low (l := codesOf _) fun v hv => by have := low v hv; omega]
    omega
  · split <;> omega
theorem code_spec : ∀ b : List Int, b.length % 2 = 0 → Asc b → ∀ k : Nat, codeGo (rangesOf b) (k : Int) = (codesOf (rangesOf b))[k]? := by
  refine even_ind (fun _ k => by simp [rangesOf_nil, codeGo, codesOf]) fun x y r hr ih hb k => ?_
  obtain ⟨h1, h2⟩ := asc_cons.mp hb
  obtain ⟨h3, h4⟩ := asc_cons.mp h2
  have hxy : x < y := h1 y (by simp)
  have hl : (runI (x, y - 1)).length = (y - x).toNat := by
    unfold runI rInts
    rw [List.length_map, List.length_range]; dsimp only; congr 1; omega
  rw [rangesOf_cons, codesOf_cons, codeGo, List.getElem?_append, hl]
  by_cases q : k < (y - x).toNat
  · rw [if_pos (by omega), if_pos q]
    unfold runI rInts
    rw [List.getElem?_map, List.getElem?_range (by dsimp only; omega)]
    simp
  · rw [if_neg (by omega), if_neg q, ← ih h4]
    congr 1
    omega
theorem asc_at {l : List Int} (h : Asc l) {x : Int} (hx : x ∈ l) : l[cnt l (x - 1)]? = some x := by
  obtain ⟨i, hi⟩ := List.getElem?_of_mem hx
  have h1 : ¬ i < cnt l (x - 1) := fun z => by have := (cnt_spec h (x - 1) hi).mpr z; omega
  have h2 := (cnt_spec h x hi).mp (Int.le_refl _)
  have h3 := cnt_step h x
  rw [if_pos hx] at h3
  rw [show cnt l (x - 1) = i by omega]
  exact hi
theorem last_some {b : List Int} (h : Asc b) {code y : Int} (hy : y ≤ code) (hb : inB b y = true) (hn : ∀ z, y < z → z ≤ code → inB b z = false) : lastAt b code = some y := by
  unfold lastAt
  by_cases q : y = code
  · subst q
    rw [if_pos (by simpa [inB] using hb)]
  · have hc := hn code (by omega) (Int.le_refl _)
    have hc' : ¬ cnt b code % 2 = 1 := by simpa [inB] using hc
    have hp : cnt b y % 2 = 1 := by simpa [inB] using hb
    have hm := cnt_mono (l := b) hy
    rw [if_neg hc', if_pos (by omega)]
    have hlt : cnt b code - 1 < b.length := by have := cnt_le b code; omega
    rw [List.getD_eq_getElem?_getD, List.getElem?_eq_getElem hlt]
    obtain ⟨e, he⟩ : ∃ e, e = b[cnt b code - 1] := ⟨_, rfl⟩
    have hg : b[cnt b code - 1]? = some e := by rw [he]; exact List.getElem?_eq_getElem hlt
    rw [← he]
    show some (e - 1) = some y
    have e1 : e ≤ code := (cnt_spec h code hg).mpr (by omega)
    have e2 : ¬ e ≤ y := fun z => by have := (cnt_spec h y hg).mp z; omega
    have e3 : cnt b (e - 1) = cnt b code - 1 := by
      have a1 : ¬ cnt b code - 1 < cnt b (e - 1) := fun z => by have := (cnt_spec h (e - 1) hg).mpr z; omega
      have a2 := (cnt_spec h e hg).mp (Int.le_refl _)
      have a3 := cnt_step h e
      rw [if_pos (List.mem_of_getElem? hg)] at a3
      omega
    by_cases e4 : e - 1 = y
    · rw [e4]
    · have := hn (e - 1) (by omega) (by omega)
      unfold inB at this
      rw [e3] at this
      simp at this
      omega
theorem last_none {b : List Int} (h : Asc b) {code : Int} (hn : ∀ z, z ≤ code → inB b z = false) : lastAt b code = none := by
  unfold lastAt
  have hc' : ¬ cnt b code % 2 = 1 := by simpa [inB] using hn code (Int.le_refl _)
  rw [if_neg hc']
  by_cases q : 0 < cnt b code
  · have hlt : 0 < b.length := by have := cnt_le b code; omega
    have hg := List.getElem?_eq_getElem hlt
    have e1 := (cnt_spec h code hg).mpr q
    have e2 := hn _ e1
    have : cnt b b[0] = 1 := by
      have a1 := (cnt_spec h b[0] hg).mp (Int.le_refl _)
      refine Decidable.byContradiction fun z => ?_
      have hl := cnt_le b b[0]
      have hlt2 : 1 < b.length := by omega
      have a2 := (cnt_spec h b[0] (List.getElem?_eq_getElem hlt2)).mpr (by omega)
      have := List.pairwise_iff_getElem.mp h 0 1 hlt hlt2 (by omega)
      omega
    unfold inB at e2
    rw [this] at e2
    simp at e2
  · rw [if_neg q]

/-! runs of an ascending list -/
noncomputable def flatR (f : List (Int × Int)) : List Int := f.flatMap fun q => [q.1, q.2 + 1]
theorem rangesOf_flat : ∀ f : List (Int × Int), rangesOf (flatR f) = f
  | [] => rfl
  | q :: f => by
    show rangesOf (q.1 :: (q.2 + 1) :: flatR f) = _
    rw [rangesOf_cons, rangesOf_flat f]
    simp
theorem flatR_append (f g : List (Int × Int)) : flatR (f ++ g) = flatR f ++ flatR g := by unfold flatR; rw [List.flatMap_append]
theorem runStep_flat {f : List (Int × Int)} {S : Int → Prop} {c : Int} (h : Bds (flatR f) S) (hS : ∀ s, S s → s < c) : flatR (runStep f c) = bStep (flatR f) c := by
  rcases snoc_cases f with rfl | ⟨g, ⟨a, z⟩, rfl⟩
  · rfl
  · have e : flatR (g ++ [(a, z)]) = (flatR g ++ [a]) ++ [z + 1] := by rw [flatR_append]; simp [flatR]
    rw [e] at h
    have hz := hS _ h.lastIn
    unfold runStep bStep
    rw [e, snoc_last, snoc_last]
    dsimp only
    by_cases q : z + 1 = c
    · rw [if_pos q, if_pos (by omega), snoc_set, snoc_set, if_pos (by omega), flatR_append]; simp [flatR]
    · rw [if_neg q, if_neg (by omega), flatR_append, e]; simp [flatR]
theorem runs_flat : ∀ (l : List Int) (f : List (Int × Int)) (S : Int → Prop), Bds (flatR f) S → Asc l → (∀ s c, S s → c ∈ l → s < c) → Bds (flatR (l.foldl runStep f)) (fun x => S x ∨ x ∈ l)
  | [], f, S, h, _, _ => ⟨h.asc, h.even, fun x => by rw [List.foldl_nil, h.mem]; simp⟩
  | c :: l, f, S, h, hp, hs => by
    obtain ⟨p1, p2⟩ := asc_cons.mp hp
    have e := runStep_flat h fun s q => hs s c q (by simp)
    have hb := bStep_spec h fun s q => Int.le_of_lt (hs s c q (by simp))
    rw [← e] at hb
    have := runs_flat l (runStep f c) _ hb p2 (fun s d q hd => by
      rcases q with q | rfl
      · exact hs s d q (List.mem_cons_of_mem _ hd)
      · exact p1 d hd)
    refine ⟨this.asc, this.even, fun x => ?_⟩
    rw [List.foldl_cons, this.mem, List.mem_cons, or_assoc]
theorem runs_spec {l : List Int} (h : Asc l) : Bds (flatR (runsOf l)) (· ∈ l) := by
  have := runs_flat l [] _ Bds.nil h (fun s c q => q.elim)
  refine ⟨this.asc, this.even, fun x => ?_⟩
  unfold runsOf
  rw [this.mem]
  simp
theorem ranges_runs {b l : List Int} (hb : Bds b (· ∈ l)) (h : Asc l) : rangesOf b = runsOf l := by
  rw [hb.uniq (runs_spec h) fun _ => Iff.rfl, rangesOf_flat]
theorem codes_bds {b l : List Int} (hb : Bds b (· ∈ l)) (h : Asc l) : codesOf (rangesOf b) = l := by
  obtain ⟨c1, c2⟩ := codes_spec b hb.even hb.asc
  exact Asc.ext c1 h fun a => by rw [c2, hb.mem]
end Mine

-- Q18
namespace Mine
variable {K : Frag} {p : Program} {w : World} {n : Nat} {sc : Scope} {cm : Bool} {xs : List Str}

/-! the law's sets -/
noncomputable def Codes (one : List Int) : Prop := ∀ x ∈ one, x ∈ spots
noncomputable def mineOf (one : List Int) : List Int := spots.filter fun x => decide (x ∈ one)
theorem spots_asc : Asc spots := by unfold Asc; decide
theorem spots_range : ∀ x ∈ spots, 0 ≤ x ∧ x ≤ 1114111 := by decide
theorem filter_asc {l : List Int} (h : Asc l) (q : Int → Bool) : Asc (l.filter q) := List.Pairwise.sublist List.filter_sublist h
theorem mine_asc (one : List Int) : Asc (mineOf one) := filter_asc spots_asc _
theorem mine_mem {one : List Int} (h : Codes one) (x : Int) : x ∈ mineOf one ↔ x ∈ one := by
  unfold mineOf
  rw [List.mem_filter]
  simp only [decide_eq_true_eq]
  exact ⟨fun z => z.2, fun z => ⟨h x z, z⟩⟩
theorem mine_length (one : List Int) : (mineOf one).length ≤ 20 := List.length_filter_le ..
theorem bounds_mine {one : List Int} (h : Codes one) : Bds (boundsOf one) (· ∈ mineOf one) :=
  ⟨(bounds_spec one).asc, (bounds_spec one).even, fun x => by rw [(bounds_spec one).mem, mine_mem h]⟩
theorem bds_range {b : List Int} {S : Int → Prop} (h : Bds b S) (hs : ∀ x, S x → 0 ≤ x ∧ x ≤ 1114111) : ∀ x ∈ b, 0 ≤ x ∧ x ≤ 1114112 := fun x hx => by
  have e := (mem_inB h.asc x).mp hx
  by_cases q : inB b x = true
  · have := hs x ((h.mem x).mp q); omega
  · have q2 : inB b (x - 1) = true := by
      cases z : inB b (x - 1) with
      | true => rfl
      | false => rw [z] at e; simp at e; exact absurd e q
    have := hs _ ((h.mem _).mp q2); omega
theorem ranges_bound {b : List Int} (h : b.length % 2 = 0) (hr : ∀ x ∈ b, 0 ≤ x ∧ x ≤ 1114112) : ∀ q ∈ rangesOf b, 0 ≤ q.1 ∧ q.1 ≤ 1114112 ∧ -1 ≤ q.2 ∧ q.2 ≤ 1114112 := by
  revert hr
  refine even_ind (P := fun b => (∀ x ∈ b, 0 ≤ x ∧ x ≤ 1114112) → ∀ q ∈ rangesOf b, 0 ≤ q.1 ∧ q.1 ≤ 1114112 ∧ -1 ≤ q.2 ∧ q.2 ≤ 1114112) (fun _ q hq => by cases hq) (fun x y r hr ih hb q hq => ?_) b h
  rw [rangesOf_cons] at hq
  rcases List.mem_cons.mp hq with rfl | hq
  · have := hb x (by simp)
    have := hb y (by simp)
    dsimp only; omega
  · exact ih (fun z hz => hb z (by simp [hz])) q hq
/-- the codes of a set that is told by a list -/
theorem ctr_codesL {b l : List Int} (h : Bds b (· ∈ l)) (hl : Asc l) (hr : ∀ x ∈ l, 0 ≤ x ∧ x ≤ 1114111) (hz : l.length ≤ 5000) (hb : b.length ≤ 2000) : Ctr (KK w) p w (n + 3) (.ref 166) [CS b] true (.ints l) := by
  have e := codes_bds h hl
  have := ctr_codes (w := w) (p := p) (n := n) (b := b) (m := b.length / 2) (by have := h.even; omega) (by omega) (ranges_bound h.even (bds_range h hr)) (by rw [e]; exact hz)
  rw [e] at this
  exact this
theorem evML {ρ : List (Option V)} {o : Expr} {apos pos : Pos} {b l : List Int} (h1 : Evs (KK w) p w (n + 2) sc xs ρ o false (CS b)) (h : Bds b (· ∈ l)) (hl : Asc l) (hb : b.length ≤ 2000) (hline : (apos.endLine == pos.line) = true := by rfl) (hbase : ∀ env, attributeBase o "ranges" env (eval o env) = eval o env := by intro _; rfl) :
    Evs (KK w) p w (n + 2) sc xs ρ (.Call (.Attribute o "ranges" apos) [] [] pos) false (.list ((runsOf l).map gp)) := by
  have := evM (m := b.length / 2) (apos := apos) (pos := pos) h1 (by have := h.even; omega) (by omega) hline hbase
  rw [ranges_runs h hl] at this
  exact this.weak
theorem newSet {ρ : List Ent} {np pos : Pos} {e : Expr} {cs : List Int} (h : Evs (KK w) p w (n + 4) sc xs (hid ρ) e false (.ints cs)) (hz : cs.length < 60) (hu : unstar e = true := by rfl) (hk : sc.names.lookup ("range_set_of" : Str) = some .globalImplicit := by rfl) :
    Rhs (KK w) p w (n + 4) sc cm xs ρ (.Call (.Name "range_set_of" np) [e] [] pos) false (CS (boundsOf cs)) :=
  .freeze (Rhs.newInst (callG (fr := true) (.cons h .nil hu) (ctr_set_of hz) (by kernel_rfl) (by kernel_rfl) hk (by simp [hu])) (by
    show (V.sqs ((boundsOf cs).map .int) && true) = true
    rw [sqs_ints]; rfl))
noncomputable def loneOf (a b : List Int) : List Int := spots.filter fun c => decide (c ∈ a) != decide (c ∈ b)
theorem lone_comm (a b : List Int) : loneOf a b = loneOf b a := by
  unfold loneOf
  refine List.filter_congr fun x _ => ?_
  cases decide (x ∈ a) <;> cases decide (x ∈ b) <;> rfl
theorem apart_bds {a b : List Int} (ha : Codes a) (hb : Codes b) : Bds (mergeB (wantF "one") (boundsOf a) (boundsOf b)) (· ∈ loneOf a b) := by
  have h := merge_bds (f := wantF "one") (by decide +kernel) (bounds_spec a) (bounds_spec b)
  refine ⟨h.asc, h.even, fun x => ?_⟩
  rw [h.mem]
  have e : ∀ u v, wantF "one" u v = (u != v) := by decide +kernel
  have e1 : inB (boundsOf a) x = decide (x ∈ a) := by rw [Bool.eq_iff_iff, (bounds_spec a).mem]; simp
  have e2 : inB (boundsOf b) x = decide (x ∈ b) := by rw [Bool.eq_iff_iff, (bounds_spec b).mem]; simp
  rw [e, e1, e2]
  unfold loneOf
  rw [List.mem_filter]
  constructor
  · intro z
    refine ⟨?_, z⟩
    by_cases q : x ∈ a
    · exact ha x q
    · by_cases q2 : x ∈ b
      · exact hb x q2
      · simp [q, q2] at z
  · exact fun z => z.2
theorem within_eq (a b : List Int) : decide (mergeB (wantF "without") (boundsOf a) (boundsOf b) = []) = (a.map fun c => decide (c ∈ b)).all id := by
  have h := merge_bds (f := wantF "without") (by decide +kernel) (bounds_spec a) (bounds_spec b)
  have e : ∀ u v, wantF "without" u v = (u && !v) := by decide +kernel
  have e1 : ∀ x, inB (boundsOf a) x = decide (x ∈ a) := fun x => by rw [Bool.eq_iff_iff, (bounds_spec a).mem]; simp
  have e2 : ∀ x, inB (boundsOf b) x = decide (x ∈ b) := fun x => by rw [Bool.eq_iff_iff, (bounds_spec b).mem]; simp
  rw [Bool.eq_iff_iff, decide_eq_true_eq, inB_empty h.asc, List.all_map, List.all_eq_true]
  constructor
  · intro z x hx
    have := z x
    rw [merge_spec (by decide +kernel) (bounds_spec a) (bounds_spec b), e, e1, e2] at this
    simpa [hx] using this
  · intro z x
    rw [merge_spec (by decide +kernel) (bounds_spec a) (bounds_spec b), e, e1, e2]
    by_cases q : x ∈ a
    · have := z x q
      simpa [q] using this
    · simp [q]
theorem meet_eq (a b : List Int) : (!decide (mergeB (wantF "both") (boundsOf a) (boundsOf b) = [])) = (a.map fun c => decide (c ∈ b)).any id := by
  have h := merge_bds (f := wantF "both") (by decide +kernel) (bounds_spec a) (bounds_spec b)
  have e : ∀ u v, wantF "both" u v = (u && v) := by decide +kernel
  have e1 : ∀ x, inB (boundsOf a) x = decide (x ∈ a) := fun x => by rw [Bool.eq_iff_iff, (bounds_spec a).mem]; simp
  have e2 : ∀ x, inB (boundsOf b) x = decide (x ∈ b) := fun x => by rw [Bool.eq_iff_iff, (bounds_spec b).mem]; simp
  have main : decide (mergeB (wantF "both") (boundsOf a) (boundsOf b) = []) = !(a.map fun c => decide (c ∈ b)).any id := by
    rw [Bool.eq_iff_iff, decide_eq_true_eq, inB_empty h.asc, Bool.not_eq_true', List.any_map, List.any_eq_false]
    constructor
    · intro z x hx
      have := z x
      rw [merge_spec (by decide +kernel) (bounds_spec a) (bounds_spec b), e, e1, e2] at this
      simpa [hx] using this
    · intro z x
      rw [merge_spec (by decide +kernel) (bounds_spec a) (bounds_spec b), e, e1, e2]
      by_cases q : x ∈ a
      · have := z x q
        simpa [q] using this
      · simp [q]
  rw [main, Bool.not_not]
noncomputable abbrev seNames : List Str := ["one", "other", "near", "far", "mine", "its", "lone"]
theorem sets_tr {one other : List Int} (h1 : Codes one) (h2 : Codes other) (z1 : one.length ≤ 20) (z2 : other.length ≤ 20) : Body w p (n + 4) (topAt 31) true seNames [.ints one, .ints other] 5 false (.bool true) := by
  have b1 := bounds_length one
  have b2 := bounds_length other
  have m1 := mine_length one
  have m2 := mine_length other
  have r1 : ∀ x ∈ mineOf one, 0 ≤ x ∧ x ≤ 1114111 := fun x hx => spots_range x (List.mem_filter.mp hx).1
  have r2 : ∀ x ∈ mineOf other, 0 ≤ x ∧ x ≤ 1114111 := fun x hx => spots_range x (List.mem_filter.mp hx).1
  have l3 : ∀ a b, (loneOf a b).length ≤ 20 := fun a b => List.length_filter_le ..
  have r3 : ∀ a b, ∀ x ∈ loneOf a b, 0 ≤ x ∧ x ≤ 1114111 := fun a b x hx => spots_range x (List.mem_filter.mp hx).1
  have a3 : ∀ a b, Asc (loneOf a b) := fun a b => filter_asc spots_asc _
  have l4 : (mergeB (wantF "one") (boundsOf one) (boundsOf other)).length ≤ 80 := Nat.le_trans (mergeGo_length ..) (by omega)
  have l5 : (mergeB (wantF "one") (boundsOf other) (boundsOf one)).length ≤ 80 := Nat.le_trans (mergeGo_length ..) (by omega)
  refine .andThen (ρ' := [fz (.ints one), fz (.ints other), fz (CS (boundsOf one)), fz (CS (boundsOf other)), none, none, none])
    (Tr1.asgSwap [⟨2, _, _⟩, ⟨3, _, _⟩] (l := [(false, CS (boundsOf one)), (false, CS (boundsOf other))]) (.cons (newSet (.nm 0) (by omega)) (.cons (newSet (.nm 1) (by omega)) .nil)) rfl (by simp [sizeLine_eq]) (by simp; exact ⟨⟨rfl, rfl⟩, rfl, rfl⟩) (fun env eo => sw_of eo (by rfl))) ?_
  refine .andThen (ρ' := [fz (.ints one), fz (.ints other), fz (CS (boundsOf one)), fz (CS (boundsOf other)), ow (.ints (mineOf one)), ow (.ints (mineOf other)), none])
    (Tr1.asgSwap [⟨4, _, _⟩, ⟨5, _, _⟩] (l := [(true, .ints (mineOf one)), (true, .ints (mineOf other))])
      (.cons (Rhs.newList (.comp (as := spots) (gv := V.int) (pt := fun x => decide (x ∈ one)) (f := V.int) [0] (.list (fr := false) .spots) (by rw [sizeLine_eq]; decide) (fun x hx => ?_) (fun x hx _ => .nm 0)) (tups_ints _))
      (.cons (Rhs.newList (.comp (as := spots) (gv := V.int) (pt := fun x => decide (x ∈ other)) (f := V.int) [1] (.list (fr := false) .spots) (by rw [sizeLine_eq]; decide) (fun x hx => ?_) (fun x hx _ => .nm 0)) (tups_ints _)) .nil)) rfl (by simp [sizeLine_eq]) (by simp; exact ⟨⟨rfl, rfl⟩, rfl, rfl⟩) (fun env eo => sw_of eo (by rfl))) ?_
  · show Evt _ _ _ _ _ _ _ _ _
    exact .cmp (cmp_inI one x) (.nm 0) (.nm 1)
  · show Evt _ _ _ _ _ _ _ _ _
    exact .cmp (cmp_inI other x) (.nm 0) (.nm 1)
  refine .cons (Tr1.assignComp (i := 6) (as := spots) (gv := V.int) (pt := fun c => decide (c ∈ one) != decide (c ∈ other)) (f := V.int) [0, 1] (.list (fr := false) .spots) (by rw [sizeLine_eq]; decide) (fun x hx => ?_) (fun x hx _ => .nm 0) rfl) ?_
  · show Evt _ _ _ _ _ _ _ _ _
    exact .cmp cmp_neBool (.cmp (cmp_inI one x) (.nm 0) (.nm 1)) (.cmp (cmp_inI other x) (.nm 0) (.nm 2))
  rintro ρ rfl
  show Tr _ _ _ _ _ _ _ [fz (.ints one), fz (.ints other), fz (CS (boundsOf one)), fz (CS (boundsOf other)), ow (.ints (mineOf one)), ow (.ints (mineOf other)), fz (.ints (loneOf one other))] _ _ _
  refine .ifRet (b := false) (fr := false) (d := .bool false) (.cast (.or (.c (b := false) (.cast (.cmp (cmp_neI (mineOf one) (mineOf one)) (callG (fr := true) (.cons (.nm 2) .nil) (ctr_codesL (bounds_mine h1) (mine_asc one) r1 (by omega) (by omega))).weak (.nm 4)) (b' := false) (by simp)) fun _ =>
    .c (b := false) (.cast (.cmp (cmp_neP (runsOf (mineOf one)) (runsOf (mineOf one))) (evML (.nm 2) (bounds_mine h1) (mine_asc one) (by omega)) (callG (fr := true) (.cons (.nm 4) .nil) (ctr_runs (by omega))).weak) (b' := false) (by simp)) fun _ =>
    .c (b := false) (.cast (.cmp (cmp_neI (mineOf other) (mineOf other)) (callG (fr := true) (.cons (.nm 3) .nil) (ctr_codesL (bounds_mine h2) (mine_asc other) r2 (by omega) (by omega))).weak (.nm 5)) (b' := false) (by simp)) fun _ => .nil)) rfl) (fun h => by exact ff h) fun _ => ?_
  refine .ifRet (b := false) (fr := false) (d := .bool false) (.cast (.or (.c (b := false) (.cast (.cmp (cmp_neP (runsOf (loneOf one other)) (runsOf (loneOf one other))) (evML (callG (fr := true) (.cons (.nm 2) (.cons (.nm 3) .nil)) (ctr_apart (by omega) (by omega))).weak (apart_bds h1 h2) (a3 _ _) (by omega)) (callG (fr := true) (.cons (.nm 6) .nil) (ctr_runs (by have := l3 one other; omega))).weak) (b' := false) (by simp)) fun _ =>
    .c (b := false) (.cast (.cmp (cmp_neI (loneOf other one) (loneOf one other)) (callG (fr := true) (.cons (callG (fr := true) (.cons (.nm 3) (.cons (.nm 2) .nil)) (ctr_apart (by omega) (by omega))).weak .nil) (ctr_codesL (apart_bds h2 h1) (a3 _ _) (r3 _ _) (by have := l3 other one; omega) (by omega))).weak (.nm 6)) (b' := false) (by rw [lone_comm]; simp)) fun _ => .nil)) rfl) (fun h => by exact ff h) fun _ => ?_
  have e2 : (one.filter fun _ => true).map (fun c => V.bool (decide (c ∈ other))) = (one.map fun c => decide (c ∈ other)).map .bool := by
    rw [List.filter_eq_self.mpr (by simp), List.map_map]; rfl
  refine .ifRet (b := false) (fr := false) (d := .bool false) (.cast (.cmp cmp_neBool (callG (.cons (.nm 2) (.cons (.nm 3) .nil)) (ctr_within (by omega) (by omega))) (callB (.cons (.cast (.comp (fr := false) (as := one) (gv := V.int) (pt := fun _ => true) (f := fun c => .bool (decide (c ∈ other))) [1] (.list (fr := false) (.nm 0)) (by rw [sizeLine_eq]; omega) (fun k hk => rfl) (fun k hk _ => .cmp (cmp_inI other k) (.nm 0) (.nm 1))) (congrArg V.list e2)) .nil) ctr_all)) (by rw [within_eq]; simp)) (fun h => by exact ff h) fun _ => ?_
  refine .ifRet (b := false) (fr := false) (d := .bool false) (.cast (.cmp cmp_neBool (callG (.cons (.nm 2) (.cons (.nm 3) .nil)) (ctr_meet (by omega) (by omega))) (callB (.cons (.cast (.comp (fr := false) (as := one) (gv := V.int) (pt := fun _ => true) (f := fun c => .bool (decide (c ∈ other))) [1] (.list (fr := false) (.nm 0)) (by rw [sizeLine_eq]; omega) (fun k hk => rfl) (fun k hk _ => .cmp (cmp_inI other k) (.nm 0) (.nm 1))) (congrArg V.list e2)) .nil) ctr_any)) (by rw [meet_eq]; simp)) (fun h => by exact ff h) fun _ => ?_
  exact .ret (fr := false) (.cast (.and2 (.cmp (cmp_eqP (runsOf (mineOf one)) (runsOf (mineOf one))) (evML (.nm 2) (bounds_mine h1) (mine_asc one) (by omega)) (callG (fr := true) (.cons (.nm 4) .nil) (ctr_runs (by omega))).weak) fun _ =>
    .cmp (cmp_eqP (runsOf (mineOf other)) (runsOf (mineOf other))) (evML (.nm 3) (bounds_mine h2) (mine_asc other) (by omega)) (callG (fr := true) (.cons (.nm 5) .nil) (ctr_runs (by omega))).weak) (by simp)) ⟨rfl, fun h => h⟩
theorem ctr_sets {one other : List Int} (h1 : Codes one) (h2 : Codes other) (z1 : one.length ≤ 20) (z2 : other.length ≤ 20) : Ctr (KK w) p w (n + 5) (.ref 320) [.ints one, .ints other] false (.bool true) :=
  ctrB ["near", "far", "mine", "its", "lone"] D_sets S_sets (sets_tr h1 h2 z1 z2)
end Mine

-- Q19
namespace Mine
variable {K : Frag} {p : Program} {w : World} {n : Nat} {sc : Scope} {cm : Bool} {xs : List Str}

/-! the law's numbers -/
theorem eqv_opt (x y : Option Int) : (optV x).eqv (optV y) = decide (x = y) := by
  cases x with
  | none => cases y <;> rfl
  | some x =>
    cases y with
    | none => rfl
    | some y =>
      show (x == y) = _
      by_cases q : x = y <;> simp [q]
theorem plain_opt (x : Option Int) : (optV x).plain = true := by cases x <;> rfl
theorem depth_opt (x : Option Int) : (optV x).py.depth ≤ 0 := by cases x <;> exact Nat.le_refl _
theorem cmp_neOpt (x y : Option Int) : CmpIs K p w n .NotEq (optV x) (optV y) (!decide (x = y)) := by
  have := cmp_ne (K := K) (p := p) (w := w) (n := n) (plain_opt x) (plain_opt y) (Nat.le_trans (depth_opt x) (by decide))
  rw [eqv_opt] at this
  exact this
theorem cmp_eqO (a b : List (Option Int)) : CmpIs K p w n .Eq (.list (a.map optV)) (.list (b.map optV)) (decide (a = b)) := cmp_eqL (B := 0) eqv_opt plain_opt (fun x => Nat.le_trans (depth_opt x) (by decide)) a b
theorem filter_cnt (l : List Int) (c : Int) : (l.filter fun x => decide (x < c)).length = cnt l (c - 1) := by
  unfold cnt
  rw [List.countP_eq_length_filter]
  congr 1
  refine List.filter_congr fun x _ => ?_
  rw [decide_eq_decide]; omega
theorem near_last {b l : List Int} (h : Bds b (· ∈ l)) (hl : Asc l) (c : Int) : lastAt b c = (l.filter fun x => decide (x ≤ c))[(l.filter fun x => decide (x ≤ c)).length - 1]? := by
  have hm : ∀ z, z ∈ l.filter (fun x => decide (x ≤ c)) ↔ z ∈ l ∧ z ≤ c := fun z => by rw [List.mem_filter]; simp
  have ha := filter_asc hl fun x => decide (x ≤ c)
  rcases snoc_cases (l.filter fun x => decide (x ≤ c)) with e | ⟨g, y, e⟩
  · rw [e]
    refine last_none h.asc fun z hz => ?_
    cases q : inB b z with
    | false => rfl
    | true =>
      have := (hm z).mpr ⟨(h.mem z).mp q, hz⟩
      rw [e] at this; cases this
  · rw [e, snoc_last]
    rw [e] at hm ha
    have hy := (hm y).mp (by simp)
    refine last_some h.asc hy.2 ((h.mem y).mpr hy.1) fun z h1 h2 => ?_
    cases q : inB b z with
    | false => rfl
    | true =>
      have := (hm z).mpr ⟨(h.mem z).mp q, h2⟩
      rcases List.mem_append.mp this with t | t
      · have := (List.pairwise_append.mp ha).2.2 z t y (by simp); omega
      · simp at t; omega
theorem told_eq (l : List Int) : ((List.range (l.length + 2)).map fun k => l[k]?) = l.map some ++ [none, none] := by
  refine List.ext_getElem? fun i => ?_
  rw [List.getElem?_map, List.getElem?_append, List.length_map]
  by_cases h : i < l.length
  · rw [List.getElem?_range (by omega), if_pos h, List.getElem?_map, List.getElem?_eq_getElem h]; simp [h]
  · rw [if_neg h]
    by_cases h2 : i < l.length + 2
    · rw [List.getElem?_range h2]
      have : i - l.length = 0 ∨ i - l.length = 1 := by omega
      rcases this with q | q <;> rw [q] <;> simp <;> omega
    · rw [List.getElem?_eq_none (by rw [List.length_range]; omega), List.getElem?_eq_none (by simp; omega)]; rfl
noncomputable abbrev nuNames : List Str := ["one", "near", "mine", "code", "ahead", "upto", "told"]
theorem numbers_tr {one : List Int} (h1 : Codes one) (z1 : one.length ≤ 20) : Body w p (n + 4) (topAt 32) true nuNames [.ints one] 6 false (.bool true) := by
  have b1 := bounds_length one
  have m1 := mine_length one
  have B := bounds_mine h1
  have asc := mine_asc one
  have cod := codes_bds B asc
  refine .andThen (ρ' := [fz (.ints one), fz (CS (boundsOf one)), fz (.ints (mineOf one)), none, none, none, none])
    (Tr1.asgTup [⟨1, _, _⟩, ⟨2, _, _⟩] (l := [(false, CS (boundsOf one)), (false, .ints (mineOf one))]) (.cons (newSet (.nm 0) (by omega))
      (.cons (.freeze (Rhs.newList (.comp (as := spots) (gv := V.int) (pt := fun x => decide (x ∈ one)) (f := V.int) [0] (.list (fr := false) .spots) (by rw [sizeLine_eq]; decide) (fun x hx => ?_) (fun x hx _ => .nm 0)) (tups_ints _))) .nil)) rfl (by simp [sizeLine_eq]) (by simp; exact ⟨⟨rfl, .inr ⟨rfl, rfl⟩⟩, rfl, .inl rfl⟩) (fun env eo => sw_of eo (by rfl))) ?_
  · show Evt _ _ _ _ _ _ _ _ _
    exact .cmp (cmp_inI one x) (.nm 0) (.nm 1)
  refine .cons (Tr1.for (ds := asked.map .int) (fun j ρ => ∃ x y z, ρ = [fz (.ints one), fz (CS (boundsOf one)), fz (.ints (mineOf one)), x, y, z, none]) (.list (callG (fr := true) .nil ctr_asked)) ⟨none, none, none, rfl⟩ ?_) ?_
  · rintro j d ρ hd ⟨x, y, z, rfl⟩
    rw [List.getElem?_map, Option.map_eq_some_iff] at hd
    obtain ⟨c, hc, rfl⟩ := hd
    refine ⟨_, .name (i := 3) rfl (.inr ⟨rfl, rfl⟩), ?_⟩
    show Tr _ _ _ _ _ _ _ [fz (.ints one), fz (CS (boundsOf one)), fz (.ints (mineOf one)), fz (.int c), y, z, none] _ _ _
    obtain ⟨ah, hah⟩ : ∃ ah, ah = (mineOf one).filter fun x => decide (x < c) := ⟨_, rfl⟩
    obtain ⟨up, hup⟩ : ∃ up, up = (mineOf one).filter fun x => decide (x ≤ c) := ⟨_, rfl⟩
    have lah : ah.length ≤ 20 := by rw [hah]; exact Nat.le_trans (List.length_filter_le ..) m1
    have lup : up.length ≤ 20 := by rw [hup]; exact Nat.le_trans (List.length_filter_le ..) m1
    refine .andThen (ρ' := [fz (.ints one), fz (CS (boundsOf one)), fz (.ints (mineOf one)), fz (.int c), ow (.ints ah), ow (.ints up), none])
      (Tr1.asgSwap [⟨4, _, _⟩, ⟨5, _, _⟩] (l := [(true, .ints ah), (true, .ints up)])
        (.cons (Rhs.newList (.cast (.comp (as := mineOf one) (gv := V.int) (pt := fun x => decide (x < c)) (f := V.int) [3] (.list (fr := false) (.nm 2)) (by rw [sizeLine_eq]; omega) (fun x hx => ?_) (fun x hx _ => .nm 0)) (by rw [← hah])) (tups_ints _))
        (.cons (Rhs.newList (.cast (.comp (as := mineOf one) (gv := V.int) (pt := fun x => decide (x ≤ c)) (f := V.int) [3] (.list (fr := false) (.nm 2)) (by rw [sizeLine_eq]; omega) (fun x hx => ?_) (fun x hx _ => .nm 0)) (by rw [← hup])) (tups_ints _)) .nil)) rfl (by simp [sizeLine_eq]) (by simp; exact ⟨⟨rfl, rfl⟩, rfl, rfl⟩) (fun env eo => sw_of eo (by rfl))) ?_
    · show Evt _ _ _ _ _ _ _ _ _
      exact .cmp cmp_lt (.nm 0) (.nm 1)
    · show Evt _ _ _ _ _ _ _ _ _
      exact .cmp cmp_le (.nm 0) (.nm 1)
    have num : numGo c (rangesOf (boundsOf one)) 0 = (ah.length : Int) := by
      rw [num_spec c _ B.even B.asc, cod, hah, filter_cnt]; omega
    have las : lastAt (boundsOf one) c = up[up.length - 1]? := by rw [hup]; exact near_last B asc c
    refine .ifRet (b := false) (fr := false) (d := .bool false) (.cast (.cmp cmp_neInt (callG (.cons (.nm 1) (.cons (.nm 3) .nil)) (ctr_number (m := (boundsOf one).length / 2) (by have := B.even; omega) (by omega))) (callB (fr := false) (.cons (.nm 4) .nil) (ctr_lenI (by omega)))) (by rw [num]; simp)) (fun h => by exact ff h) fun _ => ?_
    refine .ifRet (b := false) (fr := false) (d := .bool false) (.cast (.cmp (cmp_neOpt (lastAt (boundsOf one) c) (up[up.length - 1]?)) (callG (.cons (.nm 1) (.cons (.nm 3) .nil)) (ctr_last_at B.asc (by omega))) (.ite (.cmp (cmp_neI up []) (.nm 5) (.list (fr := false) .nil)) (fun q => ?_) fun q => ?_)) (by rw [las]; simp)) (fun h => by exact ff h) fun _ => .nil ⟨_, _, _, rfl⟩
    · have q : up ≠ [] := by simpa using q
      have hp : 0 < up.length := List.length_pos_iff.mpr q
      have hl : up[up.length - 1]? = some up[up.length - 1] := List.getElem?_eq_getElem (by omega)
      rw [hl]
      exact .itemNeg (.nm 5) (.neg .int) (by decide) (by decide) (by rw [List.length_map]; omega) (by rw [List.length_map, show ((-1 : Int) + (up.length : Int)).toNat = up.length - 1 by omega, List.getElem?_map, hl]; rfl)
    · have q : up = [] := by simpa using q
      rw [q]
      exact .nonec
  · rintro ρ ⟨x, y, z, rfl⟩
    have lr : (mineOf one).length + 2 ≤ 1000000 := by omega
    obtain ⟨r1, r2⟩ := oneRange lr
    have e1 : (List.range ((mineOf one).length + 2)).map (fun k : Nat => V.int (k : Nat)) = (rInts 0 1 ((mineOf one).length + 2)).map .int := (rInts_range _).symm
    refine .cons (Tr1.assignComp (i := 6) (as := List.range ((mineOf one).length + 2)) (gv := fun k : Nat => V.int k) (pt := fun _ => true) (f := fun k => optV ((mineOf one)[k]?)) [1] (by
      rw [e1]
      exact .range (fr := false) (.cast (callT (.cons (.add (callB (.cons (.nm 2) .nil) (ctr_lenI (by omega))) .int) .nil) ctr_range1) (by simp)) r1 r2) (by rw [List.length_range, sizeLine_eq]; omega) (fun k hk => rfl) (fun k hk _ => ?_) rfl) ?_
    · refine .cast (callG (.cons (.nm 1) (.cons (.nm 0) .nil)) (ctr_code (m := (boundsOf one).length / 2) (by have := B.even; omega) (by omega))) ?_
      rw [code_spec _ B.even B.asc, cod]
    rintro ρ rfl
    have e2 : ((List.range ((mineOf one).length + 2)).filter fun _ => true).map (fun k => optV ((mineOf one)[k]?)) = ((mineOf one).map some ++ [none, none]).map optV := by
      rw [List.filter_eq_self.mpr (by simp), ← told_eq, List.map_map]; rfl
    show Tr _ _ _ _ _ _ _ [fz (.ints one), fz (CS (boundsOf one)), fz (.ints (mineOf one)), x, y, z, fz (.list (((List.range ((mineOf one).length + 2)).filter fun _ => true).map (fun k => optV ((mineOf one)[k]?))))] _ _ _
    rw [e2]
    refine .ret (fr := false) (.cast (.cmp (cmp_eqO ((mineOf one).map some ++ [none, none]) ((mineOf one).map some ++ [none, none])) (.nm 6) (Evs.cast (Evs.addLists (fr := true) (.nm 2) (.list (fr := false) (ds := [.none, .none]) (.cons .nonec (.cons .nonec .nil))) (by simp [sizeLine_eq]; omega)).weak ?_)) (by simp)) ⟨rfl, fun h => h⟩
    rw [List.map_append, List.map_map]; rfl
theorem ctr_numbers {one : List Int} (h1 : Codes one) (z1 : one.length ≤ 20) : Ctr (KK w) p w (n + 5) (.ref 325) [.ints one] false (.bool true) :=
  ctrB ["near", "mine", "code", "ahead", "upto", "told"] D_numbers S_numbers (numbers_tr h1 z1)
end Mine

-- Q20
namespace Mine
variable {K : Frag} {p : Program} {w : World} {n : Nat} {sc : Scope} {cm : Bool} {xs : List Str}

/-! the law's opposite sets -/
noncomputable def restB (one : List Int) : List Int := mergeB (wantF "without") [0, 1114112] (boundsOf one)
theorem full_bds : Bds [0, 1114112] (fun x => 0 ≤ x ∧ x < 1114112) := by
  refine ⟨asc_cons.mpr ⟨by simp, by simp [Asc]⟩, rfl, fun x => ?_⟩
  rw [inB_cons, inB_one]
  by_cases q1 : (0 : Int) ≤ x <;> by_cases q2 : (1114112 : Int) ≤ x <;> simp [q1, q2] <;> omega
theorem rest_bds {one : List Int} (h : Codes one) : Bds (restB one) (fun x => 0 ≤ x ∧ x < 1114112 ∧ x ∉ mineOf one) := by
  have b := bounds_mine h
  have m := merge_bds (f := wantF "without") (by decide +kernel) full_bds b
  refine ⟨m.asc, m.even, fun x => ?_⟩
  have e : ∀ u v, wantF "without" u v = (u && !v) := by decide +kernel
  unfold restB
  rw [m.mem, e, Bool.and_eq_true, full_bds.mem, Bool.not_eq_true', ← Bool.not_eq_true, b.mem]
  exact and_assoc
theorem restB_length (one : List Int) : (restB one).length ≤ 2 + 2 * one.length := by
  have := mergeGo_length (wantF "without") ([0, 1114112].length + (boundsOf one).length) [0, 1114112] (boundsOf one) false false false
  have := bounds_length one
  unfold restB mergeB
  simp at *; omega
noncomputable def restC (one : List Int) : List Int := codesOf (rangesOf (restB one))
theorem restC_spec {one : List Int} (h : Codes one) : Asc (restC one) ∧ ∀ v, v ∈ restC one ↔ 0 ≤ v ∧ v < 1114112 ∧ v ∉ mineOf one := by
  have b := rest_bds h
  obtain ⟨c1, c2⟩ := codes_spec _ b.even b.asc
  exact ⟨c1, fun v => by unfold restC; rw [c2, b.mem]⟩
theorem rest_count {one : List Int} (h : Codes one) : ∀ k : Nat, k ≤ 1114112 → cnt (restC one) ((k : Int) - 1) + cnt (mineOf one) ((k : Int) - 1) = k := by
  obtain ⟨c1, c2⟩ := restC_spec h
  intro k
  induction k with
  | zero =>
    intro _
    rw [cnt_low (l := restC one) fun a ha => by have := ((c2 a).mp ha).1; omega, cnt_low (l := mineOf one) fun a ha => by have := (spots_range a (List.mem_filter.mp ha).1).1; omega]
  | succ k ih =>
    intro hk
    have i := ih (by omega)
    rw [show ((k + 1 : Nat) : Int) - 1 = (k : Int) by omega, cnt_step c1, cnt_step (mine_asc one)]
    by_cases q : (k : Int) ∈ mineOf one
    · have : (k : Int) ∉ restC one := fun z => ((c2 _).mp z).2.2 q
      rw [if_pos q, if_neg this]; omega
    · have : (k : Int) ∈ restC one := (c2 _).mpr ⟨by omega, by omega, q⟩
      rw [if_neg q, if_pos this]; omega
theorem not16 (one : List Int) : (16 : Int) ∉ mineOf one := fun z => absurd (List.mem_filter.mp z).1 (by decide)
/-- the place where a run of mine ends below -/
noncomputable def LowOf (one : List Int) (c low : Int) : Prop := low ≤ c ∧ -1 ≤ low ∧ low ∉ mineOf one ∧ ∀ z, low < z → z ≤ c → z ∈ mineOf one
noncomputable def lowV (low : Int) : Option Int := if low ≥ 0 then some low else none
theorem rest_last {one : List Int} (h : Codes one) {c low : Int} (hc : c ≤ 1114111) (hl : LowOf one c low) : lastAt (restB one) c = lowV low := by
  obtain ⟨h1, h2, h3, h4⟩ := hl
  have b := rest_bds h
  have off : ∀ z, low < z → z ≤ c → inB (restB one) z = false := fun z q1 q2 => by
    cases q : inB (restB one) z with
    | false => rfl
    | true => exact absurd (h4 z q1 q2) ((b.mem z).mp q).2.2
  unfold lowV
  split
  · exact last_some b.asc h1 ((b.mem low).mpr ⟨by omega, by omega, h3⟩) off
  · refine last_none b.asc fun z hz => ?_
    by_cases q : low < z
    · exact off z q hz
    · cases q : inB (restB one) z with
      | false => rfl
      | true => have := ((b.mem z).mp q).1; omega
theorem rest_code {one : List Int} (h : Codes one) {c : Int} (h0 : 0 ≤ c) (h1 : c < 1114112) (hm : c ∉ mineOf one) : codeGo (rangesOf (restB one)) (c - (cnt (mineOf one) (c - 1) : Int)) = some c := by
  obtain ⟨c1, c2⟩ := restC_spec h
  have b := rest_bds h
  have e := rest_count h c.toNat (by omega)
  rw [show ((c.toNat : Nat) : Int) = c by omega] at e
  rw [show c - (cnt (mineOf one) (c - 1) : Int) = (cnt (restC one) (c - 1) : Nat) by omega, code_spec _ b.even b.asc]
  exact asc_at c1 ((c2 c).mpr ⟨h0, h1, hm⟩)
theorem rest_ends {one : List Int} (h : Codes one) {top : Int} (hl : LowOf one 1114111 top) : codeGo (rangesOf (restB one)) (1114112 - (mineOf one).length - 1 : Int) = some top ∧ codeGo (rangesOf (restB one)) (1114112 - (mineOf one).length : Int) = none ∧ codeGo (rangesOf (restB one)) 1114112 = none := by
  obtain ⟨c1, c2⟩ := restC_spec h
  have b := rest_bds h
  have m1 := mine_length one
  obtain ⟨h1, h2, h3, h4⟩ := hl
  have e := rest_count h 1114112 (Nat.le_refl _)
  rw [show ((1114112 : Nat) : Int) - 1 = 1114111 by omega, cnt_high (l := restC one) fun a ha => by have := ((c2 a).mp ha).2.1; omega, cnt_high (l := mineOf one) fun a ha => (spots_range a (List.mem_filter.mp ha).1).2] at e
  have t0 : 0 ≤ top := by
    refine Decidable.byContradiction fun z => not16 one (h4 16 (by omega) (by omega))
  have ht : top ∈ restC one := (c2 top).mpr ⟨t0, by omega, h3⟩
  have ct : cnt (restC one) top = (restC one).length := cnt_high fun a ha => by
    have ha := (c2 a).mp ha
    refine Decidable.byContradiction fun z => ha.2.2 (h4 a (by omega) (by omega))
  have cs := cnt_step c1 top
  rw [if_pos ht, ct] at cs
  refine ⟨?_, ?_, ?_⟩
  · rw [show (1114112 - (mineOf one).length - 1 : Int) = (cnt (restC one) (top - 1) : Nat) by omega, code_spec _ b.even b.asc]
    exact asc_at c1 ht
  · rw [show (1114112 - (mineOf one).length : Int) = ((restC one).length : Nat) by omega, code_spec _ b.even b.asc]
    exact List.getElem?_eq_none (Nat.le_refl _)
  · rw [show (1114112 : Int) = (1114112 : Nat) by rfl, code_spec _ b.even b.asc]
    exact List.getElem?_eq_none (by show (restC one).length ≤ _; omega)
/-- «while low in mine: low = low - 1» -/
theorem low_loop {x m : Str} {p1 p2 p3 p4 p5 p6 wp cp bp : Pos} {kk : Nat} {one : List Int} {ρ0 : List Ent} {c : Int} {Ψ : PostR} (i j : Nat) (hi : xs[i]? = some x) (hj : xs[j]? = some m) (hij : i ≠ j) (hx : i < ρ0.length) (o : Bool)
    (h0 : ρ0[i]? = some (some (false, .int c))) (hm : ρ0[j]? = some (some (o, .ints (mineOf one)))) (hc : -1 ≤ c) (k1 : sc.names.lookup x = some .local) (g1 : (x == ("__debug__" : Str)) = false) (g2 : (x == ("__classdict__" : Str)) = false) (g3 : (m == ("__debug__" : Str)) = false) (g4 : (m == ("__classdict__" : Str)) = false) :
    Tr1 K p w n sc cm xs ρ0 (.While (.Compare (.Name x p1) [.In] [.Name m p2] cp) [.Assign [.Name x p3] (.BinOp (.Name x p4) .Sub (.Constant (.int 1) kk p5) bp) p6] [] wp) (fun ρ => ∃ low, LowOf one c low ∧ ρ = ρ0.set i (fz (.int low))) Ψ := by
  refine Tr1.while (fun k ρ => ∃ low, low ≤ c ∧ -1 ≤ low ∧ (∀ z, low < z → z ≤ c → z ∈ mineOf one) ∧ k = (low + 1).toNat ∧ ρ = ρ0.set i (fz (.int low))) (c + 1).toNat ⟨c, Int.le_refl _, hc, fun z q1 q2 => by omega, rfl, ?_⟩ ?_
  · refine List.ext_getElem? fun t => ?_
    rw [List.getElem?_set]
    by_cases q : i = t
    · subst q; rw [if_pos rfl, if_pos hx, h0]
    · rw [if_neg q]
  · rintro k ρ ⟨low, a1, a2, a3, rfl, rfl⟩
    have r1 : (ρ0.set i (fz (.int low)))[i]? = some (fz (.int low)) := by rw [List.getElem?_set, if_pos rfl, if_pos hx]
    have r2 : (ρ0.set i (fz (.int low)))[j]? = some (some (o, .ints (mineOf one))) := by rw [List.getElem?_set, if_neg hij]; exact hm
    refine ⟨decide (low ∈ mineOf one), .cmp (cmp_inI _ low) (.nm i hi (get_shw r1) g1 g2) (.nm j hj (get_shw r2) g3 g4), fun h => ?_, fun h => ?_⟩
    · have h := of_decide_eq_true h
      have h0 := (spots_range low (List.mem_filter.mp h).1).1
      refine .cons (.set i (.tup (.sub (.nm i hi (get_shw r1) g1 g2) .int) rfl) hi k1 rfl) ?_
      rintro ρ rfl
      refine .nil ⟨(low - 1 + 1).toNat, by omega, low - 1, by omega, by omega, fun z q1 q2 => ?_, rfl, ?_⟩
      · by_cases q : z = low
        · rw [q]; exact h
        · exact a3 z (by omega) q2
      · rw [List.set_set]
    · exact ⟨low, ⟨a1, a2, of_decide_eq_false h, a3⟩, rfl⟩
noncomputable abbrev reNames : List Str := ["one", "rest", "mine", "code", "ahead", "low", "many", "top"]
theorem asked_range : ∀ c ∈ asked, 0 ≤ c ∧ c ≤ 1114111 := by decide
theorem rest_tr {one : List Int} (h1 : Codes one) (z1 : one.length ≤ 20) : Body w p (n + 4) (topAt 33) true reNames [.ints one] 7 false (.bool true) := by
  have b1 := bounds_length one
  have b2 := restB_length one
  have m1 := mine_length one
  have B := rest_bds h1
  have asc := mine_asc one
  refine .andThen (ρ' := [fz (.ints one), fz (CS (restB one)), fz (.ints (mineOf one)), none, none, none, none, none])
    (Tr1.asgTup [⟨1, _, _⟩, ⟨2, _, _⟩] (l := [(false, CS (restB one)), (false, .ints (mineOf one))]) (.cons (.freeze (Rhs.newInst (C := 150) (fs := [("bounds", .ints (restB one))]) (.method (f := 126) (C := 150) (callG (fr := true) (.cons (.nm 0) .nil) (ctr_set_of (by omega))).weak .nil (ctr_opposite (by omega)) (by kernel_rfl)) ?_))
      (.cons (.freeze (Rhs.newList (.comp (as := spots) (gv := V.int) (pt := fun x => decide (x ∈ one)) (f := V.int) [0] (.list (fr := false) .spots) (by rw [sizeLine_eq]; decide) (fun x hx => ?_) (fun x hx _ => .nm 0)) (tups_ints _))) .nil)) rfl (by simp [sizeLine_eq]) (by simp; exact ⟨⟨rfl, .inr ⟨rfl, rfl⟩⟩, rfl, .inl rfl⟩) (fun env eo => sw_of eo (by rfl))) ?_
  · show (V.sqs ((restB one).map .int) && true) = true
    rw [sqs_ints]; rfl
  · show Evt _ _ _ _ _ _ _ _ _
    exact .cmp (cmp_inI one x) (.nm 0) (.nm 1)
  refine .cons (Tr1.for (ds := asked.map .int) (fun j ρ => ∃ x y z, ρ = [fz (.ints one), fz (CS (restB one)), fz (.ints (mineOf one)), x, y, z, none, none]) (.list (callG (fr := true) .nil ctr_asked)) ⟨none, none, none, rfl⟩ ?_) ?_
  · rintro j d ρ hd ⟨x, y, z, rfl⟩
    rw [List.getElem?_map, Option.map_eq_some_iff] at hd
    obtain ⟨c, hc, rfl⟩ := hd
    obtain ⟨c0, c1⟩ := asked_range c (List.mem_of_getElem? hc)
    refine ⟨_, .name (i := 3) rfl (.inr ⟨rfl, rfl⟩), ?_⟩
    show Tr _ _ _ _ _ _ _ [fz (.ints one), fz (CS (restB one)), fz (.ints (mineOf one)), fz (.int c), y, z, none, none] _ _ _
    have hah := filter_cnt (mineOf one) c
    have lah : ((mineOf one).filter fun x => decide (x < c)).length ≤ 20 := Nat.le_trans (List.length_filter_le ..) m1
    refine .andThen (ρ' := [fz (.ints one), fz (CS (restB one)), fz (.ints (mineOf one)), fz (.int c), fz (.int (c - (cnt (mineOf one) (c - 1) : Int))), fz (.int c), none, none])
      (Tr1.asgSwap [⟨4, _, _⟩, ⟨5, _, _⟩] (l := [(false, .int (c - (cnt (mineOf one) (c - 1) : Int))), (false, .int c)])
        (.cons (.tup (fr := false) (.cast (.sub (.nm 3) (callB (fr := false) (.cons (Evs.comp (fr := false) (as := mineOf one) (gv := V.int) (pt := fun x => decide (x < c)) (f := V.int) [3] (.list (fr := false) (.nm 2)) (by rw [sizeLine_eq]; omega) (fun x hx => ?_) (fun x hx _ => .nm 0)) .nil) (ctr_lenI (l := (mineOf one).filter fun x => decide (x < c)) (by omega)))) (by rw [hah])) rfl)
        (.cons (.tup (.nm 3) rfl) .nil)) rfl (by simp [sizeLine_eq]) (by simp; exact ⟨⟨rfl, rfl⟩, rfl, rfl⟩) (fun env eo => sw_of eo (by rfl))) ?_
    · show Evt _ _ _ _ _ _ _ _ _
      exact .cmp cmp_lt (.nm 0) (.nm 1)
    refine .cons (low_loop (one := one) (c := c) 5 2 rfl rfl (by decide) (by simp) false rfl rfl (by omega) rfl rfl rfl rfl rfl) ?_
    rintro ρ ⟨low, hlow, rfl⟩
    show Tr _ _ _ _ _ _ _ [fz (.ints one), fz (CS (restB one)), fz (.ints (mineOf one)), fz (.int c), fz (.int (c - (cnt (mineOf one) (c - 1) : Int))), fz (.int low), none, none] _ _ _
    have num : numGo c (rangesOf (restB one)) 0 = c - (cnt (mineOf one) (c - 1) : Int) := by
      have e := rest_count h1 c.toNat (by omega)
      rw [show ((c.toNat : Nat) : Int) = c by omega] at e
      rw [num_spec c _ B.even B.asc]
      show 0 + (cnt (restC one) (c - 1) : Int) = _
      omega
    have las := rest_last h1 c1 hlow
    refine .ifRet (b := false) (fr := false) (d := .bool false) (.cast (.or (.c (b := false) (.cast (.cmp cmp_neInt (callG (.cons (.nm 1) (.cons (.nm 3) .nil)) (ctr_number (m := (restB one).length / 2) (by have := B.even; omega) (by omega))) (.nm 4)) (b' := false) (by rw [num]; simp)) fun _ =>
      .c (b := false) (.cast (.cmp (cmp_neOpt (lastAt (restB one) c) (lowV low)) (callG (.cons (.nm 1) (.cons (.nm 3) .nil)) (ctr_last_at B.asc (by omega))) (.ite (.cmp cmp_ge (.nm 5) .int) (fun q => ?_) fun q => ?_)) (b' := false) (by rw [las]; simp)) fun _ => .nil)) rfl) (fun h => by exact ff h) fun _ => ?_
    · have q := of_decide_eq_true q
      have e : lowV low = some low := if_pos q
      rw [e]
      exact .nm 5
    · have q := of_decide_eq_false q
      have e : lowV low = none := if_neg q
      rw [e]
      exact .nonec
    refine .ifRet (b := false) (fr := false) (d := .bool false) (.cast (.and (.c (b := false) (.cmp (cmp_notInI (mineOf one) c) (.nm 3) (.nm 2)) fun q => .c (b := false) (.cast (.cmp (cmp_neOpt (some c) (some c)) (.cast (callG (.cons (.nm 1) (.cons (.nm 4) .nil)) (ctr_code (m := (restB one).length / 2) (by have := B.even; omega) (by omega))) ?_) (.nm 3)) (b' := false) (by simp)) fun h => by exact ff h)) (by simp)) (fun h => by exact ff h) fun _ => .nil ⟨_, _, _, rfl⟩
    rw [rest_code h1 c0 (by omega) (by simpa using q)]
  · rintro ρ ⟨x, y, z, rfl⟩
    refine .andThen (ρ' := [fz (.ints one), fz (CS (restB one)), fz (.ints (mineOf one)), x, y, z, fz (.int (1114112 - (mineOf one).length)), fz (.int 1114111)])
      (Tr1.asgSwap [⟨6, _, _⟩, ⟨7, _, _⟩] (l := [(false, .int (1114112 - (mineOf one).length)), (false, .int 1114111)]) (.cons (.tup (.sub .int (callB (fr := false) (.cons (.nm 2) .nil) (ctr_lenI (by omega)))) rfl) (.cons (.tup .int rfl) .nil)) rfl (by simp [sizeLine_eq]) (by simp; exact ⟨⟨rfl, rfl⟩, rfl, rfl⟩) (fun env eo => sw_of eo (by rfl))) ?_
    refine .cons (low_loop (one := one) (c := 1114111) 7 2 rfl rfl (by decide) (by simp) false rfl rfl (by omega) rfl rfl rfl rfl rfl) ?_
    rintro ρ ⟨top, htop, rfl⟩
    obtain ⟨t1, t2, t3⟩ := rest_ends h1 htop
    show Tr _ _ _ _ _ _ _ [fz (.ints one), fz (CS (restB one)), fz (.ints (mineOf one)), x, y, z, fz (.int (1114112 - (mineOf one).length)), fz (.int top)] _ _ _
    have e2 : (([1114112 - (mineOf one).length - 1, 1114112 - (mineOf one).length, 1114112] : List Int).filter fun _ => true).map (fun k => optV (codeGo (rangesOf (restB one)) k)) = [some top, none, none].map optV := by
      rw [List.filter_eq_self.mpr (by simp)]
      simp only [List.map_cons, List.map_nil, t1, t2, t3]
    refine .ret (fr := false) (.cast (.cmp (cmp_eqO [some top, none, none] [some top, none, none]) (.cast (Evs.comp (fr := false) (as := ([1114112 - (mineOf one).length - 1, 1114112 - (mineOf one).length, 1114112] : List Int)) (gv := V.int) (pt := fun _ => true) (f := fun k => optV (codeGo (rangesOf (restB one)) k)) [1] (.tuple (fr := false) (.tuple (.cons (.sub (.nm 6) .int) (.cons (.nm 6) (.cons .int .nil))))) (by rw [sizeLine_eq]; simp) (fun k hk => rfl) (fun k hk _ => callG (.cons (.nm 1) (.cons (.nm 0) .nil)) (ctr_code (m := (restB one).length / 2) (by have := B.even; omega) (by omega)))) (congrArg V.list e2)) (.list (fr := false) (ds := [.int top, .none, .none]) (.cons (.nm 7) (.cons .nonec (.cons .nonec .nil))))) (by simp)) ⟨rfl, fun h => h⟩
theorem ctr_rest {one : List Int} (h1 : Codes one) (z1 : one.length ≤ 20) : Ctr (KK w) p w (n + 5) (.ref 330) [.ints one] false (.bool true) :=
  ctrB ["rest", "mine", "code", "ahead", "low", "many", "top"] D_rest S_rest (rest_tr h1 z1)
end Mine

-- L6
namespace Mine
variable {K : Frag} {p : Program} {w : World} {n : Nat} {sc : Scope} {cm : Bool} {xs : List Str}

/-! data with a short text -/
structure Sh (d : V) (W D : Nat) : Prop where
  plain : d.plain = true
  short : d.py.leavesShort 13 = true
  able : d.py.showable = true
  wt : d.py.weight ≤ W
  dep : d.py.depth ≤ D
structure Shs (ds : List V) (W D : Nat) : Prop where
  plain : V.plains ds = true
  short : PyData.leavesShortAll 13 (V.pys ds) = true
  able : PyData.showableAll (V.pys ds) = true
  wt : PyData.weightAll (V.pys ds) ≤ W
  dep : PyData.depthAll (V.pys ds) ≤ D
theorem Sh.int {i : Int} (h : i.natAbs < 10 ^ 12) {D : Nat} : Sh (.int i) 41 D := by
  have l : i.natAbs.log2 < 40 := by
    by_cases q : i.natAbs = 0
    · rw [q]; decide
    · exact (Nat.log2_lt q).mpr (by omega)
  refine ⟨rfl, ?_, ?_, ?_, Nat.zero_le _⟩
  · show decide ((PyData.shown (.int i)).length ≤ 13) = true
    exact decide_eq_true (PyData.shown_int_le h)
  · show decide (i.natAbs.log2 < 1920) = true
    exact decide_eq_true (by omega)
  · show (if i == 0 then 0 else i.natAbs.log2 + 1) ≤ 41
    split <;> omega
theorem Sh.bool {b : Bool} {D : Nat} : Sh (.bool b) 41 D := ⟨rfl, rfl, rfl, Nat.zero_le _, Nat.zero_le _⟩
theorem Sh.none {D : Nat} : Sh .none 41 D := ⟨rfl, rfl, rfl, Nat.zero_le _, Nat.zero_le _⟩
theorem Shs.nil {D : Nat} : Shs [] 0 D := ⟨rfl, rfl, rfl, Nat.zero_le _, Nat.zero_le _⟩
theorem Shs.cons {d : V} {ds : List V} {W W' D : Nat} (a : Sh d W D) (b : Shs ds W' D) : Shs (d :: ds) (W + 1 + W') D := by
  refine ⟨?_, ?_, ?_, ?_, ?_⟩
  · show (d.plain && V.plains ds) = true
    rw [a.plain, b.plain]; rfl
  · show (d.py.leavesShort 13 && PyData.leavesShortAll 13 (V.pys ds)) = true
    rw [a.short, b.short]; rfl
  · show (d.py.showable && PyData.showableAll (V.pys ds)) = true
    rw [a.able, b.able]; rfl
  · show d.py.weight + 1 + PyData.weightAll (V.pys ds) ≤ _
    have := a.wt
    have := b.wt
    omega
  · show max d.py.depth (PyData.depthAll (V.pys ds)) ≤ _
    have := a.dep
    have := b.dep
    omega
theorem Sh.tuple {ds : List V} {W D : Nat} (h : Shs ds W D) : Sh (.tuple ds) W (D + 1) := ⟨h.plain, h.short, h.able, h.wt, by
  show PyData.depthAll (V.pys ds) + 1 ≤ _
  have := h.dep; omega⟩
theorem Sh.list {ds : List V} {W D : Nat} (h : Shs ds W D) : Sh (.list ds) W (D + 1) := ⟨h.plain, h.short, h.able, h.wt, by
  show PyData.depthAll (V.pys ds) + 1 ≤ _
  have := h.dep; omega⟩
theorem Shs.map {α : Type} {g : α → V} {W D : Nat} : ∀ {l : List α}, (∀ x ∈ l, Sh (g x) W D) → Shs (l.map g) ((W + 1) * l.length) D
  | [], _ => .nil
  | x :: l, h => by
    have := Shs.cons (h x (by simp)) (Shs.map (l := l) fun y hy => h y (List.mem_cons_of_mem _ hy))
    rw [List.map_cons, List.length_cons]
    have e : (W + 1) * (l.length + 1) = W + 1 + (W + 1) * l.length := by rw [Nat.mul_add, Nat.mul_one, Nat.add_comm]
    rw [e]
    exact this
theorem ctr_rep {d : V} {W D : Nat} (h : Sh d W D) (hW : W ≤ 1000000) (hD : D ≤ 50) : Ctr K p w n (.builtin "repr") [d] false (.str d.shown) :=
  ctr_repr h.plain h.able (PyData.shown_fits (B := 13) (by decide) (by decide) h.short (by have := h.wt; omega)) (Nat.le_trans h.dep hD) (PyData.hasDict_of_canLay _ (V.plain_lay d h.plain))
theorem Evs.rep {ρ : List (Option V)} {np pos : Pos} {e : Expr} {d : V} {W D : Nat} {fr : Bool} (t : Evs (KK w) p w n sc xs ρ e fr d) (h : Sh d W D) (hW : W ≤ 1000000) (hD : D ≤ 50) (hk : sc.names.lookup ("repr" : Str) = some .globalImplicit := by rfl) (hu : unstar e = true := by rfl) : Evs (KK w) p w n sc xs ρ (.Call (.Name "repr" np) [e] [] pos) false (.str d.shown) :=
  callB (.cons t.weak .nil hu) (ctr_rep h hW hD) (by kernel_rfl) (by kernel_rfl) hk (by simp [hu]) (by rfl)
/-- the signs of a text -/
noncomputable def sg (x : Str) : List Nat := x.cps.toList
theorem cmp_eqS {x y : Str} : CmpIs K p w n .Eq (.str x) (.str y) (sg x == sg y) := fun A E s X v u Q r wd ra rb h => by cases ra using Rep.casesStr; cases rb using Rep.casesStr; exact P.eq_str h
theorem cmp_neS {x y : Str} : CmpIs K p w n .NotEq (.str x) (.str y) (sg x != sg y) := fun A E s X v u Q r wd ra rb h => by cases ra using Rep.casesStr; cases rb using Rep.casesStr; exact P.ne_str h

/-! a text tells its rows -/
theorem split_at {c : Nat} : ∀ {x y r s : List Nat}, c ∉ x → c ∉ y → x ++ c :: r = y ++ c :: s → x = y ∧ r = s
  | [], [], r, s, _, _, h => by simpa using h
  | [], b :: y, r, s, _, hy, h => by
    simp at h
    exact absurd h.1 (by simp at hy; exact hy.1)
  | a :: x, [], r, s, hx, _, h => by
    simp at h
    exact absurd h.1.symm (by simp at hx; exact hx.1)
  | a :: x, b :: y, r, s, hx, hy, h => by
    simp at hx hy h
    obtain ⟨e, f⟩ := split_at hx.2 hy.2 h.2
    exact ⟨by rw [h.1, e], f⟩
theorem sg_app (a b : Str) : sg (a ++ b) = sg a ++ sg b := cps_toList_append a b
noncomputable def sgI (i : Int) : List Nat := sg (V.int i).shown
theorem map_inj {α β : Type} {f : α → β} (h : ∀ x y, f x = f y → x = y) : ∀ {a b : List α}, a.map f = b.map f → a = b
  | [], [], _ => rfl
  | [], _ :: _, q => by cases q
  | _ :: _, [], q => by cases q
  | x :: a, y :: b, q => by
    rw [List.map_cons, List.map_cons] at q
    obtain ⟨q1, q2⟩ := List.cons.inj q
    rw [h x y q1, map_inj h q2]
theorem sgI_inj {a b : Int} (h : sgI a = sgI b) : a = b := by
  unfold sgI sg V.shown at h
  rw [show (V.int a).py = .int a from rfl, show (V.int b).py = .int b from rfl, PyData.shown_int, PyData.shown_int, signs_ofString, signs_ofString] at h
  have h := map_inj (fun x y q => Char.toNat_inj.mp q) h
  have h := String.toList_inj.mp h
  rw [Int.toString_eq_repr, Int.toString_eq_repr] at h
  exact Int.repr_injective h
theorem sgI_44 (a : Int) : 44 ∉ sgI a := fun h => (shown_int_free_44 a).mp h
noncomputable def smallV : List Val := [.int 0, .int 1, .int 2, .int 3, .bool true]
noncomputable def sgV (v : Val) : List Nat := sg v.v.shown
theorem sgV_inj : ∀ a ∈ smallV, ∀ b ∈ smallV, (sgV a == sgV b) = decide (a = b) := by decide +kernel
theorem sgV_41 : ∀ a ∈ smallV, 41 ∉ sgV a := by decide +kernel
theorem sg_row (q : Row) : sg (rowV q).shown = 40 :: (sgI q.1 ++ 44 :: 32 :: (sgI q.2.1 ++ 44 :: 32 :: (sgV q.2.2 ++ [41]))) := by
  show sg (PyData.shown (.tuple [(V.int q.1).py, (V.int q.2.1).py, q.2.2.v.py])) = _
  rw [PyData.shown_tuple]
  simp only [PyData.shownAll_cons, PyData.shownAll_nil, join_cons_cons, join_one, sg_app]
  have e1 : sg ("(" : Str) = [40] := by decide +kernel
  have e2 : sg (", " : Str) = [44, 32] := by decide +kernel
  have e3 : sg (Str.ofString (if [(V.int q.1).py, (V.int q.2.1).py, q.2.2.v.py].length == 1 then ",)" else ")")) = [41] := by
    rw [if_neg (by simp)]; decide +kernel
  rw [e1, e2, e3]
  show _ = 40 :: (sgI q.1 ++ 44 :: 32 :: (sgI q.2.1 ++ 44 :: 32 :: (sgV q.2.2 ++ [41])))
  unfold sgI sgV V.shown
  simp
noncomputable def SmallRows (rows : List Row) : Prop := ∀ q ∈ rows, q.2.2 ∈ smallV
theorem row_split {q q' : Row} {X X' : List Nat} (h1 : q.2.2 ∈ smallV) (h2 : q'.2.2 ∈ smallV) (h : sg (rowV q).shown ++ X = sg (rowV q').shown ++ X') : q = q' ∧ X = X' := by
  rw [sg_row, sg_row] at h
  simp only [List.cons_append, List.append_assoc, List.cons.injEq, true_and, List.nil_append] at h
  obtain ⟨a1, h⟩ := split_at (sgI_44 _) (sgI_44 _) h
  simp only [List.cons.injEq, true_and] at h
  obtain ⟨a2, h⟩ := split_at (sgI_44 _) (sgI_44 _) h
  simp only [List.cons.injEq, true_and] at h
  obtain ⟨a3, h⟩ := split_at (sgV_41 _ h1) (sgV_41 _ h2) h
  refine ⟨Prod.ext (sgI_inj a1) (Prod.ext (sgI_inj a2) ?_), h⟩
  have := sgV_inj _ h1 _ h2
  rw [a3] at this
  simpa using this
noncomputable def tailT : List Row → List Nat
  | [] => [93]
  | q :: r => 44 :: 32 :: (sg (rowV q).shown ++ tailT r)
theorem tailT_inj : ∀ {a b : List Row}, SmallRows a → SmallRows b → tailT a = tailT b → a = b
  | [], [], _, _, _ => rfl
  | [], _ :: _, _, _, h => by simp [tailT] at h
  | _ :: _, [], _, _, h => by simp [tailT] at h
  | q :: a, q' :: b, ha, hb, h => by
    simp only [tailT, List.cons.injEq, true_and] at h
    obtain ⟨e, f⟩ := row_split (ha q (by simp)) (hb q' (by simp)) h
    rw [e, tailT_inj (fun x hx => ha x (List.mem_cons_of_mem _ hx)) (fun x hx => hb x (List.mem_cons_of_mem _ hx)) f]
theorem sg_joined : ∀ (q : Row) (r : List Row), sg (Str.join ", " (PyData.shownAll (V.pys ((q :: r).map rowV)))) ++ [93] = sg (rowV q).shown ++ tailT r
  | q, [] => rfl
  | q, q' :: r => by
    have ih := sg_joined q' r
    show sg (Str.join ", " ((rowV q).shown :: (rowV q').shown :: PyData.shownAll (V.pys (r.map rowV)))) ++ [93] = sg (rowV q).shown ++ (44 :: 32 :: (sg (rowV q').shown ++ tailT r))
    rw [join_cons_cons, sg_app, sg_app, ← ih]
    have e2 : sg (", " : Str) = [44, 32] := by decide +kernel
    rw [e2]
    simp only [List.append_assoc, List.cons_append, List.nil_append]
    rfl
noncomputable def sgR (rows : List Row) : List Nat := sg (V.list (rows.map rowV)).shown
theorem sg_rows (rows : List Row) : sgR rows = 91 :: (match rows with | [] => [93] | q :: r => sg (rowV q).shown ++ tailT r) := by
  have e1 : sg ("[" : Str) = [91] := by decide +kernel
  have e2 : sg ("]" : Str) = [93] := by decide +kernel
  show sg (PyData.shown (.list (V.pys (rows.map rowV)))) = _
  rw [PyData.shown_list, sg_app, sg_app, e1, e2]
  cases rows with
  | nil => rfl
  | cons q r =>
    rw [List.append_assoc, sg_joined q r]; rfl
theorem sgR_inj {a b : List Row} (ha : SmallRows a) (hb : SmallRows b) : (sgR a == sgR b) = decide (a = b) := by
  rw [Bool.eq_iff_iff, beq_iff_eq, decide_eq_true_eq]
  constructor
  · intro h
    rw [sg_rows, sg_rows] at h
    have h := (List.cons.inj h).2
    cases a with
    | nil =>
      cases b with
      | nil => rfl
      | cons q' b => dsimp only at h; rw [sg_row] at h; simp at h
    | cons q a =>
      cases b with
      | nil => dsimp only at h; rw [sg_row] at h; simp at h
      | cons q' b =>
        dsimp only at h
        obtain ⟨e, f⟩ := row_split (ha q (by simp)) (hb q' (by simp)) h
        rw [e, tailT_inj (fun x hx => ha x (List.mem_cons_of_mem _ hx)) (fun x hx => hb x (List.mem_cons_of_mem _ hx)) f]
  · intro h; rw [h]
end Mine

-- Q21
namespace Mine
variable {K : Frag} {p : Program} {w : World} {n : Nat} {sc : Scope} {cm : Bool} {xs : List Str}

/-! _law_rows -/
theorem threeRange {L : Nat} (h : L ≤ 1000) : Builtin.Range.small 0 ((L : Int) - 2) 3 = true ∧ Builtin.Range.rangeSize 0 ((L : Int) - 2) 3 = ((L / 3 : Nat) : Int) := by
  have e : Builtin.Range.rangeSize 0 ((L : Int) - 2) 3 = ((L / 3 : Nat) : Int) := by
    unfold Builtin.Range.rangeSize
    rw [if_pos (by decide)]
    split <;> omega
  refine ⟨?_, e⟩
  unfold Builtin.Range.small
  rw [e, fitsL (by omega) (by omega), fitsL (by omega) (by omega), fitsL (by omega) (by omega), fitsL (by omega) (by omega), if_pos (by decide), fitsL (by omega) (by omega)]
  simp
noncomputable def spotAt (c : Int) : Int := spots.getD (c.fmod 20).toNat 0
noncomputable def rowsAt (cells : List Int) (some : List Val) : List Row := (List.range (cells.length / 3)).map fun k => (spotAt (cells.getD (3 * k) 0), spotAt (cells.getD (3 * k + 1) 0), some.getD ((cells.getD (3 * k + 2) 0).fmod 4).toNat zv)
theorem fmod_range {c m : Int} (h : 0 < m) : 0 ≤ c.fmod m ∧ c.fmod m < m := ⟨Int.fmod_nonneg_of_pos c h, Int.fmod_lt_of_pos c h⟩
theorem tup_rowV (q : Row) : (rowV q).tup = true := by
  show (true && (true && (q.2.2.v.tup && true))) = true
  rw [q.2.2.tup]; rfl
theorem lrows_tr {cells : List Int} {some : List Val} (hz : cells.length ≤ 1000) (hs : some.length = 4) : Body w p n (topAt 34) true ["cells", "some", "found", "k"] [.ints cells, vals some] 2 true (.list ((rowsAt cells some).map rowV)) := by
  obtain ⟨r1, r2⟩ := threeRange hz
  refine .andThen (ρ' := [fz (.ints cells), fz (vals some), ow (.list []), none]) (.set 2 (Rhs.newList (.list .nil) rfl)) ?_
  refine .cons (Tr1.for (ds := (rInts 0 3 (cells.length / 3)).map .int) (fun j ρ => ∃ x, ρ = [fz (.ints cells), fz (vals some), ow (.list (((rowsAt cells some).take j).map rowV)), x]) (.range (fr := false) (callT (.cons .int (.cons (.sub (callB (fr := false) (.cons (.nm 0) .nil) (ctr_lenI (by omega))) .int) (.cons .int .nil))) (ctr_range3 (by decide) (by decide))) r1 r2) ⟨none, rfl⟩ ?_) ?_
  · rintro j d ρ hd ⟨x, rfl⟩
    have hj : j < cells.length / 3 := by
      have := (List.getElem?_eq_some_iff.mp hd).1
      simpa [rInts] using this
    have ed : d = .int ((3 * j : Nat) : Int) := by
      unfold rInts at hd
      rw [List.getElem?_map, List.getElem?_map, List.getElem?_range hj] at hd
      cases hd
      exact congrArg V.int (show (0 + (j : Int) * 3) = ((3 * j : Nat) : Int) by omega)
    subst ed
    refine ⟨_, .name (i := 3) rfl (.inl rfl), ?_⟩
    show Tr _ _ _ _ _ _ _ [fz (.ints cells), fz (vals some), ow (.list (((rowsAt cells some).take j).map rowV)), fz (.int ((3 * j : Nat) : Int))] _ _ _
    have g0 : (cells.map V.int)[((3 * j : Nat) : Int).toNat]? = Option.some (.int (cells.getD (3 * j) 0)) := mItem (by omega)
    have g1 : (cells.map V.int)[(((3 * j : Nat) : Int) + 1).toNat]? = Option.some (.int (cells.getD (3 * j + 1) 0)) := by
      rw [show (((3 * j : Nat) : Int) + 1) = ((3 * j + 1 : Nat) : Int) by omega]; exact mItem (by omega)
    have g2 : (cells.map V.int)[(((3 * j : Nat) : Int) + 2).toNat]? = Option.some (.int (cells.getD (3 * j + 2) 0)) := by
      rw [show (((3 * j : Nat) : Int) + 2) = ((3 * j + 2 : Nat) : Int) by omega]; exact mItem (by omega)
    have sp : ∀ c : Int, (spots.map V.int)[(c.fmod 20).toNat]? = Option.some (.int (spotAt c)) := fun c => by
      obtain ⟨q1, q2⟩ := fmod_range (c := c) (m := 20) (by decide)
      have := mItem (l := spots) (i := (c.fmod 20).toNat) (by show _ < 20; omega)
      rw [Int.toNat_natCast] at this
      exact this
    have sv : ∀ c : Int, (some.map Val.v)[(c.fmod 4).toNat]? = Option.some (some.getD (c.fmod 4).toNat zv).v := fun c => by
      obtain ⟨q1, q2⟩ := fmod_range (c := c) (m := 4) (by decide)
      have := vItem (l := some) (i := (c.fmod 4).toNat) (by omega)
      rw [Int.toNat_natCast] at this
      exact this
    have f20 : ∀ c : Int, 0 ≤ c.fmod 20 ∧ c.fmod 20 < 2 ^ 63 := fun c => by
      have := fmod_range (c := c) (m := 20) (by decide); omega
    have f4 : ∀ c : Int, 0 ≤ c.fmod 4 ∧ c.fmod 4 < 2 ^ 63 := fun c => by
      have := fmod_range (c := c) (m := 4) (by decide); omega
    refine .cons (.app 2 (d := rowV (spotAt (cells.getD (3 * j) 0), spotAt (cells.getD (3 * j + 1) 0), some.getD ((cells.getD (3 * j + 2) 0).fmod 4).toNat zv)) (ds := ((rowsAt cells some).take j).map rowV) (.tup (.tuple
      (.cons (.item .spots (.mod (.item (.nm 0) (.nm 3) (by omega) (by omega) g0) .int (by decide) (by decide)) (f20 _).1 (f20 _).2 (sp _))
      (.cons (.item .spots (.mod (.item (.nm 0) (.add (.nm 3) .int) (by omega) (by omega) g1) .int (by decide) (by decide)) (f20 _).1 (f20 _).2 (sp _))
      (.cons (.item (.nm 1) (.mod (.item (.nm 0) (.add (.nm 3) .int) (by omega) (by omega) g2) .int (by decide) (by decide)) (f4 _).1 (f4 _).2 (sv _)) .nil)))) (tup_rowV _)) (by rw [List.length_map, List.length_take]; unfold rowsAt; rw [List.length_map, List.length_range]; omega)) ?_
    rintro ρ rfl
    refine .nil ⟨fz (.int ((3 * j : Nat) : Int)), ?_⟩
    have : (rowsAt cells some).take (j + 1) = (rowsAt cells some).take j ++ [(spotAt (cells.getD (3 * j) 0), spotAt (cells.getD (3 * j + 1) 0), some.getD ((cells.getD (3 * j + 2) 0).fmod 4).toNat zv)] := by
      rw [List.take_add_one]
      congr 1
      unfold rowsAt
      rw [List.getElem?_map, List.getElem?_range hj]; rfl
    rw [this, List.map_append]; rfl
  · rintro ρ ⟨x, rfl⟩
    refine .retOwn 2 ⟨?_, fun h => h⟩
    rw [List.length_map, List.take_of_length_le (by unfold rowsAt rInts; simp)]
theorem ctr_lrows {cells : List Int} {some : List Val} (hz : cells.length ≤ 1000) (hs : some.length = 4) : Ctr (KK w) p w (n + 1) (.ref 337) [.ints cells, vals some] true (.list ((rowsAt cells some).map rowV)) :=
  ctrB ["found", "k"] D_lrows S_lrows (lrows_tr hz hs)

/-! _law_value, _law_laid -/
noncomputable def valStep (code : Int) (f : Val) (q : Row) : Val := if q.1 ≤ code ∧ code ≤ q.2.1 then q.2.2 else f
noncomputable def valueOf (rows : List Row) (code : Int) : Val := rows.foldl (valStep code) zv
theorem lvalue_tr {rows : List Row} {code : Int} : Body w p n (topAt 35) true ["rows", "code", "found", "low", "high", "value"] [.list (rows.map rowV), .int code] 4 false (valueOf rows code).v := by
  refine .andThen (ρ' := [fz (.list (rows.map rowV)), fz (.int code), fz zv.v, none, none, none]) (.set 2 (.tup .int rfl)) ?_
  refine .cons (Tr1.for (ds := rows.map rowV) (fun j ρ => ∃ x y z, ρ = [fz (.list (rows.map rowV)), fz (.int code), fz (valueOf (rows.take j) code).v, x, y, z]) (.list (fr := false) (.nm 0)) ⟨none, none, none, rfl⟩ ?_) ?_
  · rintro j d ρ hd ⟨x, y, z, rfl⟩
    rw [List.getElem?_map, Option.map_eq_some_iff] at hd
    obtain ⟨q, hq, rfl⟩ := hd
    have next : valueOf (rows.take (j + 1)) code = valStep code (valueOf (rows.take j) code) q := by
      unfold valueOf; rw [foldl_take _ _ _ hq]
    rw [next]
    generalize valueOf (rows.take j) code = f
    refine ⟨_, .tuple [⟨3, _, _⟩, ⟨4, _, _⟩, ⟨5, _, _⟩] rfl (by simp; exact ⟨⟨rfl, .inl rfl⟩, ⟨rfl, .inl rfl⟩, rfl, .inl rfl⟩), ?_⟩
    show Tr _ _ _ _ _ _ _ [fz (.list (rows.map rowV)), fz (.int code), fz f.v, fz (.int q.1), fz (.int q.2.1), fz q.2.2.v] _ _ _
    refine .cons (Tr1.ife (b := decide (q.1 ≤ code) && decide (code ≤ q.2.1)) (.chain2 cmp_le cmp_le (.nm 3) (.nm 1) (.nm 4)) (fun h => ?_) fun h => ?_) (fun ρ' q => .nil q)
    · refine .cons (.set 2 (.tup (.nm 5) (Val.tup _))) ?_
      rintro ρ rfl
      refine .nil ⟨fz (.int q.1), fz (.int q.2.1), fz q.2.2.v, ?_⟩
      unfold valStep
      rw [if_pos (by simpa using h)]; rfl
    · refine .nil ⟨fz (.int q.1), fz (.int q.2.1), fz q.2.2.v, ?_⟩
      unfold valStep
      rw [if_neg (by simpa using h)]
  · rintro ρ ⟨x, y, z, rfl⟩
    refine .ret (fr := false) (.nm 2) ⟨?_, fun h => h⟩
    rw [List.length_map, List.take_length]
theorem ctr_lvalue {rows : List Row} {code : Int} : Ctr (KK w) p w (n + 1) (.ref 344) [.list (rows.map rowV), .int code] false (valueOf rows code).v :=
  ctrB ["found", "low", "high", "value"] D_lvalue S_lvalue lvalue_tr
theorem foldl_inv {α β : Type} {P : β → Prop} {f : β → α → β} : ∀ {l : List α} {b : β}, P b → (∀ b a, a ∈ l → P b → P (f b a)) → P (l.foldl f b)
  | [], _, h, _ => h
  | a :: l, b, h, q => foldl_inv (l := l) (q b a (by simp) h) fun b c hc => q b c (List.mem_cons_of_mem _ hc)
theorem value_small {rows : List Row} (h : SmallRows rows) (code : Int) : valueOf rows code ∈ smallV :=
  foldl_inv (P := (· ∈ smallV)) (by decide) fun b a ha hb => by
    unfold valStep
    split
    · exact h a ha
    · exact hb
theorem sh_small {D : Nat} {v : Val} : v ∈ smallV → Sh v.v 41 D := by
  intro h
  have : v = .int 0 ∨ v = .int 1 ∨ v = .int 2 ∨ v = .int 3 ∨ v = .bool true := by simpa [smallV] using h
  rcases this with rfl | rfl | rfl | rfl | rfl
  · exact .int (by decide)
  · exact .int (by decide)
  · exact .int (by decide)
  · exact .int (by decide)
  · exact .bool
noncomputable def laidV (one other : List Row) (code : Int) : Val := if valueOf other code = zv then valueOf one code else valueOf other code
theorem sg_zero : ∀ v ∈ smallV, (sg v.v.shown == sg ("0" : Str)) = decide (v = zv) := by decide +kernel
theorem llaid_tr {one other : List Row} {code : Int} (h2 : SmallRows other) : Body w p (n + 1) (topAt 37) true ["one", "other", "code", "told"] [.list (one.map rowV), .list (other.map rowV), .int code] 1 false (laidV one other code).v := by
  have hs := value_small h2 code
  refine .andThen (ρ' := [fz (.list (one.map rowV)), fz (.list (other.map rowV)), fz (.int code), fz (valueOf other code).v]) (.set 3 (.tup (callG (fr := false) (.cons (.nm 1) (.cons (.nm 2) .nil)) ctr_lvalue) (Val.tup _))) ?_
  refine .ret (fr := false) (.ite (b := decide (valueOf other code = zv)) (.cast (.cmp cmp_eqS (.rep (fr := false) (.nm 3) (sh_small (D := 0) hs) (by decide) (by decide)) .strc) (sg_zero _ hs)) (fun q => ?_) fun q => ?_) ⟨rfl, fun h => h⟩
  · have q := of_decide_eq_true q
    unfold laidV
    rw [if_pos q]
    exact callG (.cons (.nm 0) (.cons (.nm 2) .nil)) ctr_lvalue
  · have q := of_decide_eq_false q
    unfold laidV
    rw [if_neg q]
    exact .nm 3
theorem ctr_llaid {one other : List Row} {code : Int} (h2 : SmallRows other) : Ctr (KK w) p w (n + 2) (.ref 358) [.list (one.map rowV), .list (other.map rowV), .int code] false (laidV one other code).v :=
  ctrB ["told"] D_llaid S_llaid (llaid_tr h2)
end Mine

-- Q22
namespace Mine
variable {K : Frag} {p : Program} {w : World} {n : Nat} {sc : Scope} {cm : Bool} {xs : List Str}

/-! _law_tiles: the cuts -/
noncomputable def keyStep (ks : List Int) (q : Row) : List Int := if q.1 ≤ q.2.1 then addKey (addKey ks q.1) (q.2.1 + 1) else ks
noncomputable def keysOf (rows : List Row) : List Int := rows.foldl keyStep [0, 1114112]
noncomputable def cutsOf (rows : List Row) : List Int := sortI (keysOf rows)
theorem addKey_mem (ks : List Int) (k x : Int) : x ∈ addKey ks k ↔ x ∈ ks ∨ x = k := by
  unfold addKey
  split
  · rename_i h
    rw [List.any_eq_true] at h
    obtain ⟨y, h1, h2⟩ := h
    have := eq_of_beq h2
    subst this
    constructor
    · exact .inl
    · rintro (z | rfl)
      · exact z
      · exact h1
  · rw [List.mem_append]; simp
theorem addKey_nodup {ks : List Int} (h : ks.Nodup) (k : Int) : (addKey ks k).Nodup := by
  unfold addKey
  split
  · exact h
  · rename_i q
    refine List.nodup_append.mpr ⟨h, by simp, fun a ha b hb z => q ?_⟩
    simp at hb
    subst hb; subst z
    exact List.any_eq_true.mpr ⟨_, ha, by simp⟩
theorem addKey_length (ks : List Int) (k : Int) : (addKey ks k).length ≤ ks.length + 1 := by
  unfold addKey
  split
  · omega
  · simp
theorem keyStep_length (ks : List Int) (q : Row) : (keyStep ks q).length ≤ ks.length + 2 := by
  unfold keyStep
  split
  · have := addKey_length (addKey ks q.1) (q.2.1 + 1)
    have := addKey_length ks q.1
    omega
  · omega
theorem foldK_length : ∀ (rows : List Row) (f : List Int), (rows.foldl keyStep f).length ≤ f.length + 2 * rows.length
  | [], f => by simp
  | q :: r, f => by
    have h1 := foldK_length r (keyStep f q)
    have h2 := keyStep_length f q
    simp only [List.foldl_cons, List.length_cons]
    omega
theorem foldK_mem : ∀ (rows : List Row) (f : List Int) (x : Int), x ∈ rows.foldl keyStep f ↔ x ∈ f ∨ ∃ q ∈ rows, q.1 ≤ q.2.1 ∧ (x = q.1 ∨ x = q.2.1 + 1)
  | [], f, x => by simp
  | q :: r, f, x => by
    rw [List.foldl_cons, foldK_mem r]
    have : x ∈ keyStep f q ↔ x ∈ f ∨ (q.1 ≤ q.2.1 ∧ (x = q.1 ∨ x = q.2.1 + 1)) := by
      unfold keyStep
      split
      · rename_i h
        rw [addKey_mem, addKey_mem, or_assoc]; simp [h]
      · rename_i h
        simp [h]
    rw [this]
    constructor
    · rintro ((z | z) | ⟨u, hu, z⟩)
      · exact .inl z
      · exact .inr ⟨q, by simp, z⟩
      · exact .inr ⟨u, by simp [hu], z⟩
    · rintro (z | ⟨u, hu, z⟩)
      · exact .inl (.inl z)
      · rcases List.mem_cons.mp hu with rfl | hu
        · exact .inl (.inr z)
        · exact .inr ⟨u, hu, z⟩
theorem keys_mem (rows : List Row) (x : Int) : x ∈ keysOf rows ↔ (x = 0 ∨ x = 1114112) ∨ ∃ q ∈ rows, q.1 ≤ q.2.1 ∧ (x = q.1 ∨ x = q.2.1 + 1) := by
  unfold keysOf
  rw [foldK_mem]; simp
theorem keys_nodup (rows : List Row) : (keysOf rows).Nodup := foldl_inv (P := List.Nodup) (by simp) fun b q _ hb => by
  unfold keyStep
  split
  · exact addKey_nodup (addKey_nodup hb _) _
  · exact hb
theorem keys_range {rows : List Row} (ok : RowsOk rows) : ∀ x ∈ keysOf rows, 0 ≤ x ∧ x ≤ 1114112 := fun x hx => by
  rcases (keys_mem rows x).mp hx with q | ⟨q, hq, h1, h2⟩
  · omega
  · have := ok q hq; omega
theorem keys_length (rows : List Row) : (keysOf rows).length ≤ 2 + 2 * rows.length := by
  have := foldK_length rows [0, 1114112]
  simpa [keysOf] using this
theorem cuts_mem (rows : List Row) (x : Int) : x ∈ cutsOf rows ↔ x ∈ keysOf rows := (sortI_perm _).mem_iff
theorem cuts_length (rows : List Row) : (cutsOf rows).length = (keysOf rows).length := (sortI_perm _).length_eq
theorem cuts_asc (rows : List Row) : Asc (cutsOf rows) := by
  have h1 := sortI_asc (keysOf rows)
  have h2 : (cutsOf rows).Nodup := (sortI_perm _).nodup_iff.mpr (keys_nodup rows)
  have := List.Pairwise.and h1 h2
  exact List.Pairwise.imp (fun ⟨a, b⟩ => by omega) this
theorem cuts_first {rows : List Row} (ok : RowsOk rows) : (cutsOf rows).getD 0 0 = 0 := by
  cases h : cutsOf rows with
  | nil => rfl
  | cons a l =>
    have ha := cuts_asc rows
    have h0 : (0 : Int) ∈ cutsOf rows := (cuts_mem rows 0).mpr ((keys_mem rows 0).mpr (.inl (.inl rfl)))
    have hr : 0 ≤ a := (keys_range ok a ((cuts_mem rows a).mp (by rw [h]; simp))).1
    rw [h] at ha h0
    show a = 0
    rcases List.mem_cons.mp h0 with q | q
    · exact q.symm
    · have := (asc_cons.mp ha).1 0 q; omega
theorem cuts_last {rows : List Row} (ok : RowsOk rows) : (cutsOf rows).getD ((cutsOf rows).length - 1) 0 = 1114112 := by
  rcases snoc_cases (cutsOf rows) with h | ⟨g, a, h⟩
  · have h0 : (0 : Int) ∈ cutsOf rows := (cuts_mem rows 0).mpr ((keys_mem rows 0).mpr (.inl (.inl rfl)))
    rw [h] at h0; cases h0
  · have ha := cuts_asc rows
    have h0 : (1114112 : Int) ∈ cutsOf rows := (cuts_mem rows _).mpr ((keys_mem rows _).mpr (.inl (.inr rfl)))
    have hr : a ≤ 1114112 := (keys_range ok a ((cuts_mem rows a).mp (by rw [h]; simp))).2
    rw [h] at ha h0 ⊢
    rw [List.getD_eq_getElem?_getD, snoc_last]
    show a = 1114112
    rcases List.mem_append.mp h0 with q | q
    · have := (List.pairwise_append.mp ha).2.2 _ q a (by simp); omega
    · simp at q; exact q.symm
section
variable {α : Type} [DecidableEq α]
noncomputable def tileStep (g : Int → α) (m : List Int × List α) (q : Int × Int) : List Int × List α := addB m.1 m.2 q.1 (g q.1)
noncomputable def pairsOf (cuts : List Int) : List (Int × Int) := cuts.zip (cuts.drop 1)
noncomputable def builtOf (g : Int → α) (cuts : List Int) : List Int × List α := (pairsOf cuts).foldl (tileStep g) ([], [])
theorem pairsOf_length (cuts : List Int) : (pairsOf cuts).length = cuts.length - 1 := by
  unfold pairsOf
  rw [List.length_zip, List.length_drop]; omega
theorem pairsOf_get {cuts : List Int} {j : Nat} {q : Int × Int} (h : (pairsOf cuts)[j]? = some q) : j + 1 < cuts.length ∧ q.1 = cuts.getD j 0 ∧ q.2 = cuts.getD (j + 1) 0 := by
  have hj := (List.getElem?_eq_some_iff.mp h).1
  rw [pairsOf_length] at hj
  unfold pairsOf at h
  rw [List.getElem?_zip_eq_some] at h
  rw [List.getElem?_drop] at h
  refine ⟨by omega, ?_, ?_⟩
  · rw [List.getD_eq_getElem?_getD, h.1]; rfl
  · rw [List.getD_eq_getElem?_getD, show j + 1 = 1 + j by omega, h.2]; rfl
theorem builtOf_step {g : Int → α} {rows : List Row} (ok : RowsOk rows) (hg : ∀ c y, c ≤ y → (∀ k ∈ keysOf rows, c < k → y < k) → g y = g c) : ∀ j : Nat, j < (cutsOf rows).length →
    Built (((pairsOf (cutsOf rows)).take j).foldl (tileStep g) ([], [])).1 (((pairsOf (cutsOf rows)).take j).foldl (tileStep g) ([], [])).2 ((cutsOf rows).getD j 0) g
  | 0, _ => by rw [cuts_first ok]; exact Built.start g
  | j + 1, h => by
    have ih := builtOf_step ok hg j (by omega)
    have hp : j < (pairsOf (cutsOf rows)).length := by rw [pairsOf_length]; omega
    obtain ⟨q, hq⟩ : ∃ q, (pairsOf (cutsOf rows))[j]? = some q := ⟨_, List.getElem?_eq_getElem hp⟩
    obtain ⟨h1, h2, h3⟩ := pairsOf_get hq
    rw [foldl_take _ _ _ hq]
    have asc := cuts_asc rows
    have g1 : (cutsOf rows)[j]? = some ((cutsOf rows).getD j 0) := by rw [List.getD_eq_getElem?_getD, List.getElem?_eq_getElem (by omega)]; rfl
    have g2 : (cutsOf rows)[j + 1]? = some ((cutsOf rows).getD (j + 1) 0) := by rw [List.getD_eq_getElem?_getD, List.getElem?_eq_getElem (by omega)]; rfl
    have lt : (cutsOf rows).getD j 0 < (cutsOf rows).getD (j + 1) 0 := by
      obtain ⟨l1, e1⟩ := List.getElem?_eq_some_iff.mp g1
      obtain ⟨l2, e2⟩ := List.getElem?_eq_some_iff.mp g2
      have := List.pairwise_iff_getElem.mp asc _ _ l1 l2 (by omega)
      omega
    have hr := keys_range ok _ ((cuts_mem rows _).mp (List.mem_of_getElem? g1))
    unfold tileStep
    rw [h2]
    refine ih.step hr.1 lt fun y hy hy' => hg _ y hy fun k hk hck => ?_
    have hk := (cuts_mem rows k).mpr hk
    obtain ⟨i, hi⟩ := List.getElem?_of_mem hk
    obtain ⟨l1, e1⟩ := List.getElem?_eq_some_iff.mp g1
    obtain ⟨l2, e2⟩ := List.getElem?_eq_some_iff.mp g2
    obtain ⟨l3, e3⟩ := List.getElem?_eq_some_iff.mp hi
    by_cases q1 : i ≤ j
    · by_cases q2 : i = j
      · subst q2; rw [g1] at hi; cases hi; omega
      · have := List.pairwise_iff_getElem.mp asc _ _ l3 l1 (by omega)
        omega
    · by_cases q2 : i = j + 1
      · subst q2; rw [g2] at hi; cases hi; omega
      · have := List.pairwise_iff_getElem.mp asc _ _ l2 l3 (by omega)
        omega
theorem cuts_pos (rows : List Row) : 0 < (cutsOf rows).length := by
  have h0 : (0 : Int) ∈ cutsOf rows := (cuts_mem rows 0).mpr ((keys_mem rows 0).mpr (.inl (.inl rfl)))
  exact List.length_pos_of_mem h0
theorem builtOf_spec {g : Int → α} {rows : List Row} (ok : RowsOk rows) (hg : ∀ c y, c ≤ y → (∀ k ∈ keysOf rows, c < k → y < k) → g y = g c) : Built (builtOf g (cutsOf rows)).1 (builtOf g (cutsOf rows)).2 1114112 g := by
  have hp := cuts_pos rows
  have := builtOf_step ok hg ((cutsOf rows).length - 1) (by omega)
  rw [cuts_last ok, ← pairsOf_length, List.take_length] at this
  exact this
/-! rows up to a code -/
noncomputable def lastC (c : Int) (st : List Int) (k : Nat) : Int := if k + 1 < st.length then st.getD (k + 1) 0 - 1 else c - 1
noncomputable def rowsCG (c : Int) (st : List Int) : Nat → List α → List (Int × Int × α)
  | _, [] => []
  | k, v :: vs => (st.getD k 0, lastC c st k, v) :: rowsCG c st (k + 1) vs
noncomputable def rowsC (c : Int) (st : List Int) (vs : List α) : List (Int × Int × α) := rowsCG c st 0 vs
theorem rowsCG_get (c : Int) (st : List Int) : ∀ (k : Nat) (vs : List α) (j : Nat), (rowsCG c st k vs)[j]? = vs[j]?.map fun v => (st.getD (k + j) 0, lastC c st (k + j), v)
  | k, [], j => by simp [rowsCG]
  | k, v :: vs, 0 => by simp [rowsCG]
  | k, v :: vs, j + 1 => by
    have := rowsCG_get c st (k + 1) vs j
    simp only [rowsCG, List.getElem?_cons_succ, this]
    rw [show k + 1 + j = k + (j + 1) by omega]
theorem rowsC_get (c : Int) (st : List Int) (vs : List α) (j : Nat) : (rowsC c st vs)[j]? = vs[j]?.map fun v => (st.getD j 0, lastC c st j, v) := by
  have := rowsCG_get c st 0 vs j
  rw [Nat.zero_add] at this
  exact this
theorem rowsCG_length (c : Int) (st : List Int) : ∀ (k : Nat) (vs : List α), (rowsCG c st k vs).length = vs.length
  | _, [] => rfl
  | k, v :: vs => by rw [rowsCG, List.length_cons, List.length_cons, rowsCG_length c st (k + 1) vs]
theorem rowsC_length (c : Int) (st : List Int) (vs : List α) : (rowsC c st vs).length = vs.length := rowsCG_length ..
theorem rowsC_top (st : List Int) (vs : List α) : rowsC 1114112 st vs = rowsOf st vs := by
  have : ∀ (k : Nat) (vs : List α), rowsCG 1114112 st k vs = rowsG st k vs := by
    intro k vs
    induction vs generalizing k with
    | nil => rfl
    | cons v vs ih => rw [rowsCG, rowsG, ih]; rfl
  exact this 0 vs
theorem rowsC_ext {c c' : Int} {st : List Int} {vs : List α} {x : α} (h : vs.length = st.length) (hl : vs[vs.length - 1]? = some x) : rowsC c' st vs = (rowsC c st vs).set (vs.length - 1) (st.getD (vs.length - 1) 0, c' - 1, x) := by
  have hp := (List.getElem?_eq_some_iff.mp hl).1
  refine List.ext_getElem? fun j => ?_
  rw [rowsC_get, List.getElem?_set, rowsC_length, rowsC_get]
  by_cases q : vs.length - 1 = j
  · subst q
    rw [if_pos rfl, if_pos hp, hl]
    unfold lastC
    rw [if_neg (by omega)]; rfl
  · rw [if_neg q]
    cases hv : vs[j]? with
    | none => rfl
    | some v =>
      have := (List.getElem?_eq_some_iff.mp hv).1
      unfold lastC
      rw [if_pos (by omega), if_pos (by omega)]
theorem rowsC_snoc {c c' : Int} {st : List Int} {vs : List α} {x : α} (h : vs.length = st.length) : rowsC c' (st ++ [c]) (vs ++ [x]) = rowsC c st vs ++ [(c, c' - 1, x)] := by
  refine List.ext_getElem? fun j => ?_
  rw [rowsC_get, List.getElem?_append, List.getElem?_append, rowsC_length, rowsC_get]
  by_cases q : j < vs.length
  · rw [if_pos q, if_pos q, List.getElem?_eq_getElem q]
    simp only [Option.map_some]
    have e1 : (st ++ [c]).getD j 0 = st.getD j 0 := by
      rw [List.getD_eq_getElem?_getD, List.getD_eq_getElem?_getD, List.getElem?_append_left (by omega)]
    have e2 : lastC c' (st ++ [c]) j = lastC c st j := by
      unfold lastC
      rw [if_pos (by simp; omega)]
      by_cases q2 : j + 1 < st.length
      · rw [if_pos q2, List.getD_eq_getElem?_getD, List.getD_eq_getElem?_getD, List.getElem?_append_left q2]
      · rw [if_neg q2, List.getD_eq_getElem?_getD, List.getElem?_append_right (by omega), show j + 1 - st.length = 0 by omega]; rfl
    rw [e1, e2]
  · rw [if_neg q, if_neg q]
    by_cases q2 : j = vs.length
    · subst q2
      simp only [Nat.sub_self, List.getElem?_cons_zero, Option.map_some]
      have e1 : (st ++ [c]).getD vs.length 0 = c := by
        rw [List.getD_eq_getElem?_getD, List.getElem?_append_right (by omega), h, Nat.sub_self]; rfl
      have e2 : lastC c' (st ++ [c]) vs.length = c' - 1 := by
        unfold lastC
        rw [if_neg (by simp; omega)]
      rw [e1, e2]
    · rw [List.getElem?_eq_none (by simp; omega), List.getElem?_eq_none (by simp; omega)]; rfl
end
end Mine

-- Q23
namespace Mine
variable {K : Frag} {p : Program} {w : World} {n : Nat} {sc : Scope} {cm : Bool} {xs : List Str}

/-! _law_tiles: the walk -/
structure TellOk {α : Type} [DecidableEq α] (gv : α → V) (P : α → Prop) : Prop where
  sh : ∀ a, P a → Sh (gv a) 90 1
  tup : ∀ a, (gv a).tup = true
  eq : ∀ a b, P a → P b → (sg (gv a).shown == sg (gv b).shown) = decide (a = b)
  plain : ∀ a, (gv a).plain = true
  dep : ∀ a, (gv a).py.depth ≤ 1
theorem cmp_neNil {ds : List V} (h : V.plains ds = true) (hd : PyData.depthAll (V.pys ds) ≤ 50) : CmpIs K p w n .NotEq (.list ds) (.list []) (!ds.isEmpty) := by
  have := cmp_ne (K := K) (p := p) (w := w) (n := n) (d := .list ds) (e := .list []) h rfl (by show PyData.depthAll _ + 1 ≤ 60; omega)
  have e : (V.list ds).eqv (.list []) = ds.isEmpty := by cases ds <;> rfl
  rw [e] at this
  exact this
noncomputable def dict2E (a b c d : Int) (k1 k2 k3 k4 : Nat) (p1 p2 p3 p4 pos : Pos) : Expr := .Dict [some (.Constant (.int a) k1 p1), some (.Constant (.int b) k2 p2)] [.Constant (.int c) k3 p3, .Constant (.int d) k4 p4] pos
noncomputable def isDict2 (a b : Int) (e : Expr) : Prop := ∃ c d k1 k2 k3 k4 p1 p2 p3 p4 pos, e = dict2E a b c d k1 k2 k3 k4 p1 p2 p3 p4 pos
theorem Rhs.dictE {ρ : List Ent} {a b : Int} {e : Expr} (hab : a ≠ b) (h : isDict2 a b e) : Rhs K p w n sc cm xs ρ e true (.idict [a, b]) :=
  fun A E s KP Y env sl ρt oa Q r eo kp nm pre S q => by
    obtain ⟨c, d, k1, k2, k3, k4, p1, p2, p3, p4, pos, h⟩ := h
    rw [h]
    exact Rhs.dict2 hab A E s KP Y env sl ρt oa Q r eo kp nm pre S q
theorem noComp_dict {a b : Int} {e : Expr} (h : isDict2 a b e) : noComp e = true := by
    obtain ⟨c, d, k1, k2, k3, k4, p1, p2, p3, p4, pos, h⟩ := h
    rw [h]; rfl
theorem dict_set {ρ : List Ent} {x : Str} {pp pos2} {a b : Int} {e : Expr} {Ψ : PostR} (i : Nat) (h : isDict2 a b e) (hab : a ≠ b) (hi : xs[i]? = some x) (kd : sc.names.lookup x = some .local) :
    Tr1 K p w n sc cm xs ρ (.Assign [.Name x pp] e pos2) (· = ρ.set i (some (true, .idict [a, b]))) Ψ :=
  Tr1.set i (Rhs.dictE hab h) hi kd (noComp_dict h)
noncomputable def dictOf0 : Stmt → Expr × Str × Pos × Pos
  | .Assign [.Name x pp] e pos => (e, x, pp, pos)
  | _ => (.Name "" default, "", default, default)
noncomputable def st36 : Stmt := (bodyOf (topAt 36)).getD 0 (.Pass default)
theorem tilesB : bodyOf (topAt 36) = .Assign [.Name (dictOf0 st36).2.1 (dictOf0 st36).2.2.1] (dictOf0 st36).1 (dictOf0 st36).2.2.2 :: (bodyOf (topAt 36)).tail := by kernel_rfl
theorem tilesD : isDict2 0 1114112 (dictOf0 st36).1 := ⟨1, 1, 0, 0, 0, 0, ⟨256, 14, 256, 15⟩, ⟨256, 20, 256, 27⟩, ⟨256, 17, 256, 18⟩, ⟨256, 29, 256, 30⟩, ⟨256, 13, 256, 31⟩, by kernel_rfl⟩
theorem tilesX : (dictOf0 st36).2.1 = "points" := by kernel_rfl
theorem tiles0 : ∃ (e : Expr) (x : Str) (pp pos : Pos), isDict2 0 1114112 e ∧ x = "points" ∧ bodyOf (topAt 36) = .Assign [.Name x pp] e pos :: (bodyOf (topAt 36)).tail := ⟨_, _, _, _, tilesD, tilesX, tilesB⟩
section
variable {α : Type} [DecidableEq α]
theorem plain_tV {gv : α → V} {P : α → Prop} (T : TellOk gv P) (q : Int × Int × α) : (tV gv q).plain = true := by
  show (true && (true && ((gv q.2.2).plain && true))) = true
  rw [T.plain]; rfl
theorem tup_tV {gv : α → V} {P : α → Prop} (T : TellOk gv P) (q : Int × Int × α) : (tV gv q).tup = true := by
  show (true && (true && ((gv q.2.2).tup && true))) = true
  rw [T.tup]; rfl
theorem depth_tV {gv : α → V} {P : α → Prop} (T : TellOk gv P) (q : Int × Int × α) : (tV gv q).py.depth ≤ 2 := by
  show max 0 (max 0 (max (gv q.2.2).py.depth 0)) + 1 ≤ 2
  have := T.dep q.2.2
  omega
noncomputable def tilesOf (told : Int → α) (rows : List Row) : List (Int × Int × α) := rowsOf (builtOf told (cutsOf rows)).1 (builtOf told (cutsOf rows)).2
noncomputable abbrev tiNames : List Str := ["rows", "told", "points", "low", "high", "value", "cuts", "found"]
theorem ctr_tiles {rows : List Row} {L : LamObj} {caps : List (Str × V)} {told : Int → α} {gv : α → V} {P : α → Prop} (ok : RowsOk rows) (hz : rows.length ≤ 20) (hL : ∀ c, LamC (KK w) p w n L caps [.int c] false (gv (told c))) (T : TellOk gv P) (hP : ∀ c, P (told c)) :
    Ctr (KK w) p w (n + 1) (.ref 351) [.list (rows.map rowV), .lam L caps] true (.list ((tilesOf told rows).map (tV gv))) := by
  refine ctrB (i := topAt 36) (xs := tiNames) (cm := true) (args := [.list (rows.map rowV), .lam L caps]) ["points", "low", "high", "value", "cuts", "found"] D_tiles S_tiles ?_
  obtain ⟨e0, x0, pp0, pos0, hd0, hx0, hb0⟩ := tiles0
  unfold Body
  rw [hb0]
  refine .andThen (ρ' := [fz (.list (rows.map rowV)), fz (.lam L caps), ow (.idict [0, 1114112]), none, none, none, none, none]) (dict_set 2 hd0 (by omega) (by rw [hx0]; rfl) (by rw [hx0]; rfl)) ?_
  refine .cons (Tr1.for (ds := rows.map rowV) (fun j ρ => ∃ x y z, ρ = [fz (.list (rows.map rowV)), fz (.lam L caps), ow (.idict (keysOf (rows.take j))), x, y, z, none, none]) (.list (fr := false) (.nm 0)) ⟨none, none, none, rfl⟩ ?_) ?_
  · rintro j e ρ hd ⟨x, y, z, rfl⟩
    rw [List.getElem?_map, Option.map_eq_some_iff] at hd
    obtain ⟨q, hq, rfl⟩ := hd
    have hj := (List.getElem?_eq_some_iff.mp hq).1
    have hk := keys_length (rows.take j)
    have h2 : (rows.take j).length ≤ j := List.length_take_le ..
    have next : keysOf (rows.take (j + 1)) = keyStep (keysOf (rows.take j)) q := by
      unfold keysOf; rw [foldl_take _ _ _ hq]
    rw [next]
    generalize keysOf (rows.take j) = ks at *
    refine ⟨_, .tuple [⟨3, _, _⟩, ⟨4, _, _⟩, ⟨5, _, _⟩] rfl (by simp; exact ⟨⟨rfl, .inl rfl⟩, ⟨rfl, .inl rfl⟩, rfl, .inl rfl⟩), ?_⟩
    show Tr _ _ _ _ _ _ _ [fz (.list (rows.map rowV)), fz (.lam L caps), ow (.idict ks), fz (.int q.1), fz (.int q.2.1), fz q.2.2.v, none, none] _ _ _
    refine .cons (Tr1.ife (b := decide (q.1 ≤ q.2.1)) (.cmp cmp_le (.nm 3) (.nm 4)) (fun h => ?_) fun h => ?_) (fun ρ' q => .nil q)
    · have h := of_decide_eq_true h
      refine .cons (Tr1.setDict (i := 2) (ks := ks) (k := q.1) (.nm 3) rfl rfl (by omega)) ?_
      rintro ρ rfl
      refine .cons (Tr1.setDict (i := 2) (ks := addKey ks q.1) (k := q.2.1 + 1) (.add (.nm 4) .int) rfl rfl (by have := addKey_length ks q.1; omega)) ?_
      rintro ρ rfl
      refine .nil ⟨fz (.int q.1), fz (.int q.2.1), fz q.2.2.v, ?_⟩
      unfold keyStep
      rw [if_pos h]; rfl
    · have h := of_decide_eq_false h
      refine .nil ⟨fz (.int q.1), fz (.int q.2.1), fz q.2.2.v, ?_⟩
      unfold keyStep
      rw [if_neg h]
  rintro ρ ⟨x, y, z, rfl⟩
  rw [List.length_map, List.take_length]
  have hkl := keys_length rows
  have hcl := cuts_length rows
  have hc0 := cuts_pos rows
  refine .andThen (ρ' := [fz (.list (rows.map rowV)), fz (.lam L caps), ow (.idict (keysOf rows)), x, y, z, fz (.ints (cutsOf rows)), ow (.list [])])
    (Tr1.asgSwap [⟨6, _, _⟩, ⟨7, _, _⟩] (l := [(false, .ints (cutsOf rows)), (true, .list [])]) (.cons (.freeze (Rhs.newList (callB (.cons (.nm 2) .nil) (ctr_sortedD (by omega))) (tups_ints _))) (.cons (Rhs.newList (.list .nil) rfl) .nil)) rfl (by simp [sizeLine_eq]) (by simp; exact ⟨⟨rfl, rfl⟩, rfl, rfl⟩) (fun env eo => sw_of eo (by rfl))) ?_
  obtain ⟨cuts, hcuts⟩ : ∃ cuts, cuts = cutsOf rows := ⟨_, rfl⟩
  have step0 : ∀ j, (∀ x ∈ (((pairsOf cuts).take j).foldl (tileStep told) ([], [])).2, P x) ∧ (((pairsOf cuts).take j).foldl (tileStep told) ([], [])).2.length = (((pairsOf cuts).take j).foldl (tileStep told) ([], [])).1.length ∧ (((pairsOf cuts).take j).foldl (tileStep told) ([], [])).2.length ≤ j := by
    intro j
    induction j with
    | zero => exact ⟨fun x hx => by simp at hx, rfl, by simp⟩
    | succ j ih =>
      cases hq : (pairsOf cuts)[j]? with
      | none =>
        have := List.getElem?_eq_none_iff.mp hq
        rw [List.take_of_length_le (by omega)] at ih ⊢
        exact ⟨ih.1, ih.2.1, by omega⟩
      | some q =>
        rw [foldl_take _ _ _ hq]
        generalize ((pairsOf cuts).take j).foldl (tileStep told) ([], []) = m at *
        unfold tileStep addB
        split
        · exact ⟨ih.1, ih.2.1, Nat.le_succ_of_le ih.2.2⟩
        · refine ⟨fun x hx => ?_, by simp [ih.2.1], by simp; omega⟩
          rcases List.mem_append.mp hx with z | z
          · exact ih.1 x z
          · simp at z; subst z; exact hP _
  have e1 : ((cuts.map V.int).zip ((cuts.map V.int).drop 1)).map (fun q => V.tuple [q.1, q.2]) = (pairsOf cuts).map gp := by
    unfold pairsOf
    rw [← List.map_drop, List.zip_map, List.map_map]; rfl
  have hfin : tilesOf told rows = rowsC 1114112 ((pairsOf cuts).foldl (tileStep told) ([], [])).1 ((pairsOf cuts).foldl (tileStep told) ([], [])).2 := by
    rw [rowsC_top, hcuts]; rfl
  have hlastc : cuts.getD (pairsOf cuts).length 0 = 1114112 := by rw [pairsOf_length, hcuts]; exact cuts_last ok
  rw [← hcuts] at hcl hc0 ⊢
  refine .cons (Tr1.for (ds := (pairsOf cuts).map gp) (fun j ρ => ∃ x y z, ρ = [fz (.list (rows.map rowV)), fz (.lam L caps), ow (.idict (keysOf rows)), x, y, z, fz (.ints cuts), ow (.list ((rowsC (cuts.getD j 0) (((pairsOf cuts).take j).foldl (tileStep told) ([], [])).1 (((pairsOf cuts).take j).foldl (tileStep told) ([], [])).2).map (tV gv)))])
    (by
      rw [← e1]
      exact .zip (fr := false) (fr2 := true) (.nm 6) (.cast (.slice (.nm 6) (.some .int) .none .none (by simp) (by simp [sizeLine_eq]; omega)) (congrArg V.list (pick_drop (cuts.map V.int) 1 (by rw [List.length_map]; omega)))) (by kernel_rfl)) ⟨x, y, z, rfl⟩ ?_) ?_
  · rintro j e ρ hd ⟨x, y, z, rfl⟩
    rw [List.getElem?_map, Option.map_eq_some_iff] at hd
    obtain ⟨q, hq, rfl⟩ := hd
    obtain ⟨hj, q1, q2⟩ := pairsOf_get hq
    obtain ⟨i1, i2, i3⟩ := step0 j
    rw [foldl_take _ _ _ hq, ← q1, ← q2]
    generalize ((pairsOf cuts).take j).foldl (tileStep told) ([], []) = m at *
    obtain ⟨st, vs⟩ := m
    obtain ⟨c, c'⟩ := q
    dsimp only at i1 i2 i3 q1 q2 ⊢
    refine ⟨_, .tuple [⟨3, _, _⟩, ⟨4, _, _⟩] rfl (by simp; exact ⟨⟨rfl, .inl rfl⟩, rfl, .inl rfl⟩), ?_⟩
    show Tr _ _ _ _ _ _ _ [fz (.list (rows.map rowV)), fz (.lam L caps), ow (.idict (keysOf rows)), fz (.int c), fz (.int c'), z, fz (.ints cuts), ow (.list ((rowsC c st vs).map (tV gv)))] _ _ _
    refine .andThen (ρ' := [fz (.list (rows.map rowV)), fz (.lam L caps), ow (.idict (keysOf rows)), fz (.int c), fz (.int c'), fz (gv (told c)), fz (.ints cuts), ow (.list ((rowsC c st vs).map (tV gv)))])
      (.set 5 (.tup (.callLam 1 (.cons (.nm 3) .nil) (hL c) rfl rfl) (T.tup _))) ?_
    have hlen : (rowsC c st vs).length = vs.length := rowsC_length ..
    unfold tileStep
    dsimp only
    have hx := hP c
    generalize told c = x at *
    cases hl : vs[vs.length - 1]? with
    | none =>
      have hf0 : vs = [] := by
        cases vs with
        | nil => rfl
        | cons x f => simp at hl
      have es : st = [] := by
        have := i2; rw [hf0] at this; exact List.eq_nil_of_length_eq_zero this.symm
      subst hf0; subst es
      refine .cons (Tr1.ife (b := false) (.and (.no (.cast (.cmp (cmp_neNil (ds := []) rfl (by decide)) (.nm 7) (.list (fr := false) .nil)) rfl))) (fun h => by exact ff h) fun _ => ?_) (fun ρ' q => .nil q)
      refine .cons (.app 7 (ds := []) (d := tV gv (c, c' - 1, x)) (.tup (.tuple (.cons (.nm 3) (.cons (.sub (.nm 4) .int) (.cons (.nm 5) .nil)))) (tup_tV T _)) (by simp)) ?_
      rintro ρ rfl
      exact .nil ⟨fz (.int c), fz (.int c'), fz (gv x), rfl⟩
    | some y =>
      have hf0 : 0 < vs.length := by have := (List.getElem?_eq_some_iff.mp hl).1; omega
      have hy : P y := i1 y (List.mem_of_getElem? hl)
      have hrl : (rowsC c st vs)[vs.length - 1]? = some (st.getD (vs.length - 1) 0, lastC c st (vs.length - 1), y) := by rw [rowsC_get, hl]; rfl
      have hne : (!((rowsC c st vs).map (tV gv)).isEmpty) = true := by
        have : ((rowsC c st vs).map (tV gv)).length = vs.length := by rw [List.length_map, hlen]
        cases hh : (rowsC c st vs).map (tV gv) with
        | nil => rw [hh] at this; simp at this; omega
        | cons a b => rfl
      have g1 : -(((rowsC c st vs).map (tV gv)).length : Int) ≤ -1 := by rw [List.length_map, hlen]; omega
      have g2 : ((rowsC c st vs).map (tV gv))[((-1 : Int) + (((rowsC c st vs).map (tV gv)).length : Int)).toNat]? = some (tV gv (st.getD (vs.length - 1) 0, lastC c st (vs.length - 1), y)) := by
        rw [List.length_map, hlen, show ((-1 : Int) + (vs.length : Int)).toNat = vs.length - 1 by omega, List.getElem?_map, hrl]; rfl
      refine .cons (Tr1.ife (b := decide (y = x)) (.cast (.and (.c (.cast (.cmp (cmp_neNil (plains_map (plain_tV T) _) (Nat.le_trans (depth_map (depth_tV T) _) (by decide))) (.nm 7) (.list (fr := false) .nil)) hne) fun _ => .c (.cmp cmp_eqS (.rep (fr := false) (.itemT (.itemNeg (.nm 7) (.neg .int) (by decide) (by decide) g1 g2) .int (by decide) (by decide) rfl) (T.sh y hy) (by decide) (by decide)) (.rep (fr := false) (.nm 5) (T.sh x hx) (by decide) (by decide))) fun _ => .nil)) (by rw [T.eq y x hy hx]; simp)) (fun h => ?_) fun h => ?_) (fun ρ' q => .nil q)
      · have h := of_decide_eq_true h
        subst h
        have ea : addB st vs c y = (st, vs) := by unfold addB; rw [hl, if_pos rfl]
        rw [ea, rowsC_ext (c := c) (c' := c') i2.symm.symm hl]
        refine .cons (Tr1.setL (ds := (rowsC c st vs).map (tV gv)) (d := tV gv (st.getD (vs.length - 1) 0, c' - 1, y)) 7 (.tup (.tuple (.cons (.itemT (.itemNeg (.nm 7) (.neg .int) (by decide) (by decide) g1 g2) .int (by decide) (by decide) rfl) (.cons (.sub (.nm 4) .int) (.cons (.nm 5) .nil)))) (tup_tV T _)) (by rw [List.length_map, hlen]; exact hf0)) ?_
        rintro ρ' rfl
        refine .nil ⟨fz (.int c), fz (.int c'), fz (gv y), ?_⟩
        show [_, _, _, _, _, _, _, _] = [_, _, _, _, _, _, _, _]
        rw [List.length_map, hlen, List.map_set]
      · have h := of_decide_eq_false h
        have ea : addB st vs c x = (st ++ [c], vs ++ [x]) := by unfold addB; rw [hl, if_neg (by simpa using h)]
        rw [ea, rowsC_snoc (c := c) (c' := c') i2]
        refine .cons (.app 7 (ds := (rowsC c st vs).map (tV gv)) (d := tV gv (c, c' - 1, x)) (.tup (.tuple (.cons (.nm 3) (.cons (.sub (.nm 4) .int) (.cons (.nm 5) .nil)))) (tup_tV T _)) (by
          have : j < (pairsOf cuts).length := (List.getElem?_eq_some_iff.mp hq).1
          rw [pairsOf_length] at this
          rw [List.length_map, hlen]; omega)) ?_
        rintro ρ' rfl
        refine .nil ⟨fz (.int c), fz (.int c'), fz (gv x), ?_⟩
        show [_, _, _, _, _, _, _, _] = [_, _, _, _, _, _, _, _]
        rw [List.map_append]; rfl
  · rintro ρ ⟨x, y, z, rfl⟩
    refine .retOwn 7 ⟨?_, fun h => h⟩
    rw [List.length_map, List.take_length, hlastc, hfin]
end
theorem tell_val : TellOk Val.v (· ∈ smallV) where
  sh := fun a h => ⟨(sh_small (D := 1) h).plain, (sh_small (D := 1) h).short, (sh_small (D := 1) h).able, Nat.le_trans (sh_small (D := 1) h).wt (by decide), (sh_small (D := 1) h).dep⟩
  tup := Val.tup
  eq := fun a b ha hb => sgV_inj a ha b hb
  plain := Val.plain
  dep := fun a => Nat.le_trans a.depth (by decide)
noncomputable def smallP : List (Val × Val) := smallV.flatMap fun a => smallV.map fun b => (a, b)
theorem smallP_mem {q : Val × Val} (h1 : q.1 ∈ smallV) (h2 : q.2 ∈ smallV) : q ∈ smallP := List.mem_flatMap.mpr ⟨q.1, h1, List.mem_map.mpr ⟨q.2, h2, rfl⟩⟩
theorem sgP_inj : ∀ a ∈ smallP, ∀ b ∈ smallP, (sg (gP a).shown == sg (gP b).shown) = decide (a = b) := by decide +kernel
theorem tell_pair : TellOk gP (fun q => q.1 ∈ smallV ∧ q.2 ∈ smallV) where
  sh := fun a h => by
    have := Sh.tuple (.cons (sh_small (D := 0) h.1) (.cons (sh_small (D := 0) h.2) .nil))
    exact ⟨this.plain, this.short, this.able, Nat.le_trans this.wt (by decide), this.dep⟩
  tup := tup_gP
  eq := fun a b ha hb => sgP_inj a (smallP_mem ha.1 ha.2) b (smallP_mem hb.1 hb.2)
  plain := plain_gP
  dep := depth_gP
end Mine

-- L7
namespace Mine

/-! plain: maps that are told by rows -/
noncomputable def valFrom (v : Val) (rows : List Row) (c : Int) : Val := rows.foldl (valStep c) v
theorem valFrom_or : ∀ (rows : List Row) (v : Val) (c : Int), (valFrom v rows c = v ∧ ∀ q ∈ rows, ¬ (q.1 ≤ c ∧ c ≤ q.2.1)) ∨ ∃ q ∈ rows, q.1 ≤ c ∧ c ≤ q.2.1 ∧ valFrom v rows c = q.2.2
  | [], v, c => .inl ⟨rfl, fun q hq => by cases hq⟩
  | q :: r, v, c => by
    rcases valFrom_or r (valStep c v q) c with ⟨h1, h2⟩ | ⟨q', h1, h2, h3, h4⟩
    · by_cases hit : q.1 ≤ c ∧ c ≤ q.2.1
      · refine .inr ⟨q, by simp, hit.1, hit.2, ?_⟩
        show valFrom (valStep c v q) r c = _
        rw [h1]
        unfold valStep
        rw [if_pos hit]
      · refine .inl ⟨?_, fun x hx => ?_⟩
        · show valFrom (valStep c v q) r c = _
          rw [h1]
          unfold valStep
          rw [if_neg hit]
        · rcases List.mem_cons.mp hx with rfl | hx
          · exact hit
          · exact h2 x hx
    · exact .inr ⟨q', List.mem_cons_of_mem _ h1, h2, h3, h4⟩
theorem valFrom_const {c y : Int} (h : c ≤ y) : ∀ (rows : List Row) (v : Val), (∀ q ∈ rows, q.1 ≤ q.2.1 → (c < q.1 → y < q.1) ∧ (c < q.2.1 + 1 → y < q.2.1 + 1)) → valFrom v rows y = valFrom v rows c
  | [], v, _ => rfl
  | q :: r, v, hk => by
    have e : valStep y v q = valStep c v q := by
      unfold valStep
      have hq := hk q (by simp)
      have : (q.1 ≤ y ∧ y ≤ q.2.1) ↔ (q.1 ≤ c ∧ c ≤ q.2.1) := by
        constructor
        · intro z
          have := hq (by omega)
          omega
        · intro z
          have := hq (by omega)
          omega
      by_cases z : q.1 ≤ c ∧ c ≤ q.2.1
      · rw [if_pos z, if_pos (this.mpr z)]
      · rw [if_neg z, if_neg (fun t => z (this.mp t))]
    show valFrom (valStep y v q) r y = valFrom (valStep c v q) r c
    rw [e]
    exact valFrom_const h r _ fun x hx => hk x (List.mem_cons_of_mem _ hx)
theorem value_const {rows all : List Row} (hs : ∀ q ∈ rows, q ∈ all) {c y : Int} (h : c ≤ y) (hk : ∀ k ∈ keysOf all, c < k → y < k) : valueOf rows y = valueOf rows c :=
  valFrom_const h rows zv fun q hq hle => ⟨fun z => hk _ ((keys_mem all _).mpr (.inr ⟨q, hs q hq, hle, .inl rfl⟩)) z, fun z => hk _ ((keys_mem all _).mpr (.inr ⟨q, hs q hq, hle, .inr rfl⟩)) z⟩
theorem putAll_at : ∀ {rows : List Row} {m : List Int × List Val}, RowsOk rows → Canon m.1 m.2 → ∀ c, 0 ≤ c → c ≤ 1114111 → atV (putAll rows m) c = valFrom (atV m c) rows c
  | [], m, _, _, c, _, _ => rfl
  | q :: r, m, ok, C, c, h0, h1 => by
    have P := C.put (ok q (by simp)).1 (ok q (by simp)).2 (value := q.2.2)
    have ih := putAll_at (rows := r) (m := (putSt q.1 q.2.1 q.2.2 m.1 m.2, putVs q.1 q.2.1 q.2.2 m.1 m.2)) (fun x hx => ok x (List.mem_cons_of_mem _ hx)) P.1 c h0 h1
    have e : atV (putSt q.1 q.2.1 q.2.2 m.1 m.2, putVs q.1 q.2.1 q.2.2 m.1 m.2) c = valStep c (atV m c) q := by
      unfold atV valStep
      dsimp only
      rw [P.2 c h0 h1]
      split <;> rfl
    show atV (putAll r (putSt q.1 q.2.1 q.2.2 m.1 m.2, putVs q.1 q.2.1 q.2.2 m.1 m.2)) c = _
    rw [ih, e]; rfl
theorem at0 (d : Val) {c : Int} (h : 0 ≤ c) : atV ([0], [d]) c = d := by
  unfold atV mapAt
  dsimp only
  rw [cnt_high (l := [0]) (by simp; exact h)]; rfl
theorem made_at {rows : List Row} {d : Val} (ok : RowsOk rows) {c : Int} (h0 : 0 ≤ c) (h1 : c ≤ 1114111) : atV (madeOf rows d) c = valFrom d rows c := by
  unfold madeOf
  rw [putAll_at ok (canon0 d) c h0 h1, at0 d h0]
theorem canon_ext {a b : List Int × List Val} (ca : Canon a.1 a.2) (cb : Canon b.1 b.2) (h : ∀ c, 0 ≤ c → c ≤ 1114111 → atV a c = atV b c) : a = b := by
  obtain ⟨e1, e2⟩ := ca.uniq cb fun c h0 h1 => by rw [mapAt_atV ca h0, mapAt_atV cb h0, h c h0 h1]
  exact Prod.ext e1 e2
theorem row_hit {st : List Int} {vs : List Val} (C : Canon st vs) {c : Int} {q : Row} (hq : q ∈ rowsOf st vs) (h1 : q.1 ≤ c) (h2 : c ≤ q.2.1) : q.2.2 = atV (st, vs) c := by
  obtain ⟨j, hj⟩ := List.getElem?_of_mem hq
  have hl := C.len
  have hjl : j < vs.length := by have := (List.getElem?_eq_some_iff.mp hj).1; rw [rowsOf_length] at this; exact this
  have hg := rowsG_get st 0 vs j _ (List.getElem?_eq_getElem hjl)
  rw [show rowsG st 0 vs = rowsOf st vs from rfl, hj, Nat.zero_add] at hg
  have e := Option.some.inj hg
  rw [e] at h1 h2 ⊢
  dsimp only at h1 h2 ⊢
  have hjs : j < st.length := by omega
  have gs : st[j]? = some (st.getD j 0) := by rw [List.getD_eq_getElem?_getD, List.getElem?_eq_getElem hjs]; rfl
  have a1 := (cnt_spec C.asc c gs).mp h1
  have a2 : cnt st c ≤ j + 1 := by
    unfold lastOf at h2
    split at h2
    · rename_i z
      have gs2 : st[j + 1]? = some (st.getD (j + 1) 0) := by rw [List.getD_eq_getElem?_getD, List.getElem?_eq_getElem z]; rfl
      have : ¬ j + 1 < cnt st c := fun t => by have := (cnt_spec C.asc c gs2).mpr t; omega
      omega
    · have := cnt_le st c; omega
  unfold atV mapAt
  dsimp only
  rw [show cnt st c - 1 = j by omega, List.getElem?_eq_getElem hjl]; rfl
theorem row_ex {st : List Int} {vs : List Val} (C : Canon st vs) {c : Int} (h0 : 0 ≤ c) (h1 : c ≤ 1114111) : ∃ q ∈ rowsOf st vs, q.1 ≤ c ∧ c ≤ q.2.1 := by
  have hp := C.pos h0
  have hl := C.len
  have hc := cnt_le st c
  obtain ⟨k, hk⟩ : ∃ k, k = cnt st c - 1 := ⟨_, rfl⟩
  have hkl : k < vs.length := by omega
  have hks : k < st.length := by omega
  have hg := rowsG_get st 0 vs k _ (List.getElem?_eq_getElem hkl)
  rw [Nat.zero_add] at hg
  have gs : st[k]? = some (st.getD k 0) := by rw [List.getD_eq_getElem?_getD, List.getElem?_eq_getElem hks]; rfl
  refine ⟨_, List.mem_of_getElem? hg, (cnt_spec C.asc c gs).mpr (by omega), ?_⟩
  show c ≤ lastOf st k
  unfold lastOf
  split
  · rename_i z
    have gs2 : st[k + 1]? = some (st.getD (k + 1) 0) := by rw [List.getD_eq_getElem?_getD, List.getElem?_eq_getElem z]; rfl
    have : ¬ st.getD (k + 1) 0 ≤ c := fun t => by have := (cnt_spec C.asc c gs2).mp t; omega
    omega
  · exact h1
theorem rows_at {m : List Int × List Val} (C : Canon m.1 m.2) {v : Val} {c : Int} (h0 : 0 ≤ c) (h1 : c ≤ 1114111) : valFrom v (rowsOf m.1 m.2) c = atV m c := by
  rcases valFrom_or (rowsOf m.1 m.2) v c with ⟨_, h⟩ | ⟨q, hq, a, b, e⟩
  · obtain ⟨q, hq, a, b⟩ := row_ex C h0 h1
    exact absurd ⟨a, b⟩ (h q hq)
  · rw [e]; exact row_hit C hq a b
theorem rest_at {m : List Int × List Val} (C : Canon m.1 m.2) {d v : Val} {c : Int} (h0 : 0 ≤ c) (h1 : c ≤ 1114111) : valFrom v (restOf d (rowsOf m.1 m.2)) c = if atV m c = d then v else atV m c := by
  rcases valFrom_or (restOf d (rowsOf m.1 m.2)) v c with ⟨e, h⟩ | ⟨q, hq, a, b, e⟩
  · obtain ⟨q, hq, a, b⟩ := row_ex C h0 h1
    have hv := row_hit C hq a b
    by_cases z : atV m c = d
    · rw [if_pos z, e]
    · refine absurd ⟨a, b⟩ (h q (List.mem_filter.mpr ⟨hq, ?_⟩))
      rw [hv]
      simpa using z
  · obtain ⟨hm, hd⟩ := List.mem_filter.mp hq
    have hv := row_hit C hm a b
    rw [e, hv]
    rw [hv] at hd
    have z : ¬ atV m c = d := by simpa using hd
    rw [if_neg z]
theorem laid_canon {d : Val} {a b : List Int × List Val} (ca : Canon a.1 a.2) (cb : Canon b.1 b.2) : Canon (laidOf d a b).1 (laidOf d a b).2 := putAll_canon (rest_ok cb) (madeOf_canon (rest_ok ca))
theorem laid_at {d : Val} {a b : List Int × List Val} (ca : Canon a.1 a.2) (cb : Canon b.1 b.2) {c : Int} (h0 : 0 ≤ c) (h1 : c ≤ 1114111) : atV (laidOf d a b) c = if atV b c = d then atV a c else atV b c := by
  unfold laidOf
  rw [putAll_at (rest_ok cb) (madeOf_canon (rest_ok ca)) c h0 h1, made_at (rest_ok ca) h0 h1, rest_at ca h0 h1, rest_at cb h0 h1]
  by_cases q : atV b c = d
  · rw [if_pos q, if_pos q]
    split
    · rename_i z; exact z.symm
    · rfl
  · rw [if_neg q, if_neg q]
theorem rowsOf_inj {a b : List Int × List Val} (ha : a.2.length = a.1.length) (hb : b.2.length = b.1.length) (h : rowsOf a.1 a.2 = rowsOf b.1 b.2) : a = b := by
  have hl : a.2.length = b.2.length := by rw [← rowsOf_length a.1 a.2, h, rowsOf_length]
  have key : ∀ j (h1 : j < a.2.length) (h2 : j < b.2.length), (a.1.getD j 0, lastOf a.1 j, a.2[j]) = (b.1.getD j 0, lastOf b.1 j, b.2[j]) := fun j h1 h2 => by
    have e1 := rowsG_get a.1 0 a.2 j _ (List.getElem?_eq_getElem h1)
    have e2 := rowsG_get b.1 0 b.2 j _ (List.getElem?_eq_getElem h2)
    rw [Nat.zero_add] at e1 e2
    rw [show rowsG a.1 0 a.2 = rowsG b.1 0 b.2 from h, e2] at e1
    exact (Option.some.inj e1).symm
  refine Prod.ext (List.ext_getElem (by omega) fun j h1 h2 => ?_) (List.ext_getElem hl fun j h1 h2 => ?_)
  · have := congrArg Prod.fst (key j (by omega) (by omega))
    dsimp only at this
    rw [List.getD_eq_getElem?_getD, List.getD_eq_getElem?_getD, List.getElem?_eq_getElem h1, List.getElem?_eq_getElem h2] at this
    exact this
  · exact congrArg (fun q => q.2.2) (key j h1 h2)

/-! the law's tiles are the maps' rows -/
theorem tiles_eq {α : Type} [DecidableEq α] {rows : List Row} {told : Int → α} {st : List Int} {vs : List α} (ok : RowsOk rows) (hg : ∀ c y, c ≤ y → (∀ k ∈ keysOf rows, c < k → y < k) → told y = told c) (C : Canon st vs) (h : ∀ c, 0 ≤ c → c ≤ 1114111 → mapAt st vs c = some (told c)) : (builtOf told (cutsOf rows)).1 = st ∧ (builtOf told (cutsOf rows)).2 = vs := by
  have B := builtOf_spec ok hg
  exact B.canon.uniq C fun c h0 h1 => by rw [B.val c h0 (by omega), h c h0 h1]
theorem tiles_rows {rows : List Row} {told : Int → Val} {m : List Int × List Val} (ok : RowsOk rows) (hg : ∀ c y, c ≤ y → (∀ k ∈ keysOf rows, c < k → y < k) → told y = told c) (C : Canon m.1 m.2) (h : ∀ c, 0 ≤ c → c ≤ 1114111 → atV m c = told c) : tilesOf told rows = rowsOf m.1 m.2 := by
  obtain ⟨e1, e2⟩ := tiles_eq ok hg C fun c h0 h1 => by rw [mapAt_atV C h0, h c h0 h1]
  unfold tilesOf
  rw [e1, e2]
noncomputable def mapOf (rows : List Row) : List Int × List Val := madeOf rows zv
theorem map_canon {rows : List Row} (ok : RowsOk rows) : Canon (mapOf rows).1 (mapOf rows).2 := madeOf_canon ok
theorem map_at {rows : List Row} (ok : RowsOk rows) {c : Int} (h0 : 0 ≤ c) (h1 : c ≤ 1114111) : atV (mapOf rows) c = valueOf rows c := made_at ok h0 h1
theorem tiles_mine {rows : List Row} (ok : RowsOk rows) : tilesOf (valueOf rows) rows = rowsOf (mapOf rows).1 (mapOf rows).2 :=
  tiles_rows ok (fun c y h hk => value_const (fun q hq => hq) h hk) (map_canon ok) fun c h0 h1 => map_at ok h0 h1
theorem rows_app {one other : List Row} (o1 : RowsOk one) (o2 : RowsOk other) : RowsOk (one ++ other) := fun q hq => by
  rcases List.mem_append.mp hq with z | z
  · exact o1 q z
  · exact o2 q z
theorem tiles_laid {one other : List Row} (o1 : RowsOk one) (o2 : RowsOk other) : tilesOf (laidV one other) (one ++ other) = rowsOf (laidOf zv (mapOf one) (mapOf other)).1 (laidOf zv (mapOf one) (mapOf other)).2 :=
  tiles_rows (rows_app o1 o2) (fun c y h hk => by
    unfold laidV
    rw [value_const (rows := one) (fun q hq => List.mem_append_left _ hq) h hk, value_const (rows := other) (fun q hq => List.mem_append_right _ hq) h hk]) (laid_canon (map_canon o1) (map_canon o2)) fun c h0 h1 => by
    rw [laid_at (map_canon o1) (map_canon o2) h0 h1, map_at o1 h0 h1, map_at o2 h0 h1]; rfl
noncomputable def pairV (one other : List Row) (c : Int) : Val × Val := (valueOf one c, valueOf other c)
theorem tiles_pairs {one other : List Row} (o1 : RowsOk one) (o2 : RowsOk other) : ∀ st vs, Built st vs 1114112 (pairAt (mapOf one) (mapOf other)) → st = (builtOf (pairV one other) (cutsOf (one ++ other))).1 ∧ vs = (builtOf (pairV one other) (cutsOf (one ++ other))).2 := fun st vs B => by
  obtain ⟨e1, e2⟩ := tiles_eq (rows_app o1 o2) (told := pairV one other) (fun c y h hk => by
    unfold pairV
    rw [value_const (rows := one) (fun q hq => List.mem_append_left _ hq) h hk, value_const (rows := other) (fun q hq => List.mem_append_right _ hq) h hk]) B.canon fun c h0 h1 => by
    rw [B.val c h0 (by omega)]
    unfold pairAt pairV
    rw [map_at o1 h0 h1, map_at o2 h0 h1]
  exact ⟨e1.symm, e2.symm⟩
theorem again_map {rows : List Row} (ok : RowsOk rows) (d : Val) : madeOf (rowsOf (mapOf rows).1 (mapOf rows).2) d = mapOf rows :=
  canon_ext (madeOf_canon (rowsOf_ok (map_canon ok))) (map_canon ok) fun c h0 h1 => by
    rw [made_at (rowsOf_ok (map_canon ok)) h0 h1, rows_at (map_canon ok) h0 h1]
theorem map_length (rows : List Row) : (mapOf rows).1.length ≤ 1 + 2 * rows.length := madeOf_length ..
theorem rowsOf_small {st : List Int} {vs : List Val} (h : ∀ v ∈ vs, v ∈ smallV) : SmallRows (rowsOf st vs) := fun q hq => by
  obtain ⟨j, hj⟩ := List.getElem?_of_mem hq
  have hjl : j < vs.length := by have := (List.getElem?_eq_some_iff.mp hj).1; rw [rowsOf_length] at this; exact this
  have hg := rowsG_get st 0 vs j _ (List.getElem?_eq_getElem hjl)
  rw [show rowsG st 0 vs = rowsOf st vs from rfl, hj] at hg
  rw [Option.some.inj hg]
  exact h _ (List.getElem_mem hjl)
theorem canon_vals {m : List Int × List Val} (C : Canon m.1 m.2) {P : Val → Prop} (h : ∀ c, 0 ≤ c → c ≤ 1114111 → P (atV m c)) : ∀ v ∈ m.2, P v := fun v hv => by
  obtain ⟨j, hj⟩ := List.getElem?_of_mem hv
  have hl := C.len
  have hjl := (List.getElem?_eq_some_iff.mp hj).1
  have hjs : j < m.1.length := by omega
  have e := C.at (List.getElem?_eq_getElem hjs)
  have hm := List.getElem_mem hjs
  have := h _ (C.nonneg _ hm) (C.top _ hm)
  unfold atV at this
  rw [e, hj] at this
  exact this
theorem map_small {rows : List Row} (ok : RowsOk rows) (h : SmallRows rows) : SmallRows (rowsOf (mapOf rows).1 (mapOf rows).2) :=
  rowsOf_small (canon_vals (map_canon ok) (P := (· ∈ smallV)) fun c h0 h1 => by rw [map_at ok h0 h1]; exact value_small h c)
theorem laid_small {one other : List Row} (o1 : RowsOk one) (o2 : RowsOk other) (s1 : SmallRows one) (s2 : SmallRows other) : SmallRows (rowsOf (laidOf zv (mapOf one) (mapOf other)).1 (laidOf zv (mapOf one) (mapOf other)).2) :=
  rowsOf_small (canon_vals (laid_canon (map_canon o1) (map_canon o2)) (P := (· ∈ smallV)) fun c h0 h1 => by
    rw [laid_at (map_canon o1) (map_canon o2) h0 h1, map_at o1 h0 h1, map_at o2 h0 h1]
    split
    · exact value_small s1 c
    · exact value_small s2 c)
theorem laid_length {d : Val} (a b : List Int × List Val) : (laidOf d a b).1.length ≤ 1 + 2 * a.2.length + 2 * b.2.length := by
  have h1 := putAll_length (restOf d (rowsOf b.1 b.2)) (madeOf (restOf d (rowsOf a.1 a.2)) d)
  have h2 := madeOf_length (restOf d (rowsOf a.1 a.2)) d
  have h3 := rest_length (d := d) (st := a.1) (vs := a.2)
  have h4 := rest_length (d := d) (st := b.1) (vs := b.2)
  unfold laidOf
  omega
end Mine

-- Q24
namespace Mine
variable {K : Frag} {p : Program} {w : World} {n : Nat} {sc : Scope} {cm : Bool} {xs : List Str}

/-! lambdas of the law -/
theorem lamK_of {K : Frag} {c P : Addr} (h1 : codeHdIn K c P = true) (e : nsIn K mainGlobals "__builtins__" = some (some (.ref 4))) (h3 : P ≠ 4) : LamK K c P where
  hd := fun h X => codeHd_of_K X h1
  bi := fun h mg W G => by
    obtain ⟨o, q1, q2, q3, q4⟩ := W.mod
    exact ⟨4, o, mg_of W.k G e, by decide, by decide, fun z => h3 z.symm, q1, q2, q3, q4⟩
theorem lamK_maps : LamK (KK w) 362 360 := lamK_of (by kernel_rfl) (by kernel_rfl) (by decide)
theorem lamK_pairs : LamK (KK w) 369 365 := lamK_of (by kernel_rfl) (by kernel_rfl) (by decide)
theorem bindLam {P : Arguments} {x : Str} (h : ∀ fd : FuncData, fd.params = P → fd.defaults = .none → fd.kwdefaults = .none → ∀ a, bindArgs fd ⟨[a], []⟩ = pure [(x, a)]) : ∀ fd : FuncData, fd.params = P → fd.defaults = .none → fd.kwdefaults = .none → ∀ vs : List Value, vs.length = [x].length → bindArgs fd ⟨vs, []⟩ = pure ([x].zip vs) :=
  fun fd e1 e2 e3 => bind1 (h fd e1 e2 e3)

/-! texts of rows -/
noncomputable def FitRows (rows : List Row) : Prop := ∀ q ∈ rows, q.1.natAbs < 10 ^ 12 ∧ q.2.1.natAbs < 10 ^ 12
theorem sh_row {q : Row} (h1 : q.2.2 ∈ smallV) (h2 : q.1.natAbs < 10 ^ 12 ∧ q.2.1.natAbs < 10 ^ 12) : Sh (rowV q) 126 1 := Sh.tuple (.cons (.int h2.1) (.cons (.int h2.2) (.cons (sh_small (D := 0) h1) .nil)))
theorem sh_rows {rows : List Row} (h1 : SmallRows rows) (h2 : FitRows rows) : Sh (.list (rows.map rowV)) (127 * rows.length) 2 := Sh.list (.map fun q hq => sh_row (h1 q hq) (h2 q hq))
theorem rows_fit {st : List Int} {vs : List Val} (C : Canon st vs) : FitRows (rowsOf st vs) := fun q hq => by
  obtain ⟨j, j1, j2, j3, j4⟩ := rowsG_mem st 0 vs q hq
  rw [j3, j4]
  have hj : j < st.length := by have := C.len; omega
  rw [List.getD_eq_getElem?_getD, List.getElem?_eq_getElem hj]
  have a1 := C.nonneg _ (List.getElem_mem hj)
  have a2 := C.top _ (List.getElem_mem hj)
  refine ⟨by simp; omega, ?_⟩
  unfold lastOf
  split
  · rename_i h
    rw [List.getD_eq_getElem?_getD, List.getElem?_eq_getElem h]
    have a3 := C.nonneg _ (List.getElem_mem h)
    have a4 := C.top _ (List.getElem_mem h)
    simp; omega
  · decide
theorem tups_rows (rows : List Row) : V.tups (rows.map rowV) = true := by
  induction rows with
  | nil => rfl
  | cons q r ih =>
    show ((rowV q).tup && V.tups (r.map rowV)) = true
    rw [tup_rowV, ih]; rfl

/-! values told apart by their texts -/
theorem strOk_small : ∀ v ∈ smallV, PyData.strOk v.v.shown = true := by decide +kernel
theorem eqvS_small : ∀ a ∈ smallV, ∀ b ∈ smallV, (V.str a.v.shown).eqv (.str b.v.shown) = decide (a = b) := by decide +kernel
theorem cmp_notInT {f : List Val} {v : Val} (hf : ∀ a ∈ f, a ∈ smallV) (hv : v ∈ smallV) : CmpIs K p w n .NotIn (.str v.v.shown) (.list (f.map fun a => .str a.v.shown)) (!decide (v ∈ f)) := by
  have h1 : ∀ l : List Val, (∀ a ∈ l, a ∈ smallV) → V.plains (l.map fun a => V.str a.v.shown) = true := by
    intro l
    induction l with
    | nil => intro _; rfl
    | cons a l ih =>
      intro h
      show ((V.str a.v.shown).plain && V.plains (l.map fun a => V.str a.v.shown)) = true
      rw [ih fun x hx => h x (List.mem_cons_of_mem _ hx), show (V.str a.v.shown).plain = PyData.strOk a.v.shown from rfl, strOk_small a (h a (by simp))]; rfl
  have h2 : ((f.map fun a => V.str a.v.shown).any fun y => y.eqv (.str v.v.shown)) = decide (v ∈ f) := by
    rw [Bool.eq_iff_iff, List.any_eq_true, decide_eq_true_eq]
    constructor
    · rintro ⟨y, hy, e⟩
      obtain ⟨a, ha, rfl⟩ := List.mem_map.mp hy
      rw [eqvS_small a (hf a ha) v hv] at e
      have := of_decide_eq_true e
      subst this; exact ha
    · intro h
      refine ⟨_, List.mem_map.mpr ⟨v, h, rfl⟩, ?_⟩
      rw [eqvS_small v hv v hv]; simp
  rw [← h2]
  exact cmp_notIn (d := .str v.v.shown) (strOk_small v hv) (h1 f hf) (Nat.zero_le _)
theorem newMapOf {ρ : List (Option V)} {np pos : Pos} {e e2 : Expr} {rows : List Row} {d : Val} (h : Evs (KK w) p w (n + 5) sc xs ρ e false (.list (rows.map rowV))) (h2 : Evs (KK w) p w (n + 5) sc xs ρ e2 false d.v) (ok : RowsOk rows) (hz : rows.length ≤ 200) (hu : unstar e = true := by rfl) (hu2 : unstar e2 = true := by rfl) (hk : sc.names.lookup ("range_map_of" : Str) = some .globalImplicit := by rfl) :
    Evs (KK w) p w (n + 5) sc xs ρ (.Call (.Name "range_map_of" np) [e, e2] [] pos) true (RMv d (madeOf rows d).1 (madeOf rows d).2) :=
  callG (fr := true) (.cons h (.cons h2 .nil hu2) hu) (ctr_map_of ok hz) (by kernel_rfl) (by kernel_rfl) hk (by simp [hu, hu2])
theorem sqs_map (d : Val) (st : List Int) (vs : List Val) : V.sqs (([("default", d.v), ("starts", V.ints st), ("values", vals vs)] : List (Str × V)).map fun q => q.2) = true := by
  show ((d.v).sq && (V.sqs (List.map V.int _) && (V.sqs (List.map Val.v _) && true))) = true
  rw [d.sq, sqs_ints, sqs_vals]; rfl
theorem madeMap {ρ : List Ent} {np pos : Pos} {e e2 : Expr} {rows : List Row} {d : Val} (h : Evs (KK w) p w (n + 5) sc xs (hid ρ) e false (.list (rows.map rowV))) (h2 : Evs (KK w) p w (n + 5) sc xs (hid ρ) e2 false d.v) (ok : RowsOk rows) (hz : rows.length ≤ 200) (hu : unstar e = true := by rfl) (hu2 : unstar e2 = true := by rfl) (hk : sc.names.lookup ("range_map_of" : Str) = some .globalImplicit := by rfl) :
    Rhs (KK w) p w (n + 5) sc cm xs ρ (.Call (.Name "range_map_of" np) [e, e2] [] pos) false (RMv d (madeOf rows d).1 (madeOf rows d).2) :=
  .freeze (Rhs.newInst (newMapOf h h2 ok hz hu hu2 hk) (sqs_map d _ _))
end Mine

-- Q25
namespace Mine
variable {K : Frag} {p : Program} {w : World} {n : Nat} {sc : Scope} {cm : Bool} {xs : List Str}

/-! the lambdas of _law_maps_right -/
noncomputable def argsOf : Expr → List Expr
  | .Call _ es _ _ => es
  | _ => []
noncomputable def rhsOf : Stmt → Expr
  | .Assign _ e _ => e
  | _ => .Name "" default
noncomputable def lamAt (k : Nat) : Expr := (argsOf (rhsOf ((bodyOf (topAt 38)).getD k (.Pass default)))).getD 1 (.Name "" default)
noncomputable def lamObj (q : Str) : Expr → LamObj
  | .Lambda ps b s _ => ⟨ps, b, s, q⟩
  | _ => ⟨⟨[], [], none, [], [], none, []⟩, .Name "" default, default, q⟩
theorem lamV_mine {rows : List Row} (c : Int) : LamC (KK w) p w (n + 2) (lamObj qMaps (lamAt 1)) [("one", .list (rows.map rowV))] [.int c] false (valueOf rows c).v :=
  lamC_of (ps := ["code"]) (callG (.cons (.nm 1) (.cons (.nm 0) .nil)) ctr_lvalue) rfl (bindLam fun fd e1 e2 e3 a => by
    cases fd
    dsimp only at e1 e2 e3
    subst e1 e2 e3
    kernel_rfl) (by simp) (by simp) (by simp; rfl) (by simp; rfl) (by decide +kernel)
theorem lamV_its {rows : List Row} (c : Int) : LamC (KK w) p w (n + 2) (lamObj qMaps (lamAt 2)) [("other", .list (rows.map rowV))] [.int c] false (valueOf rows c).v :=
  lamC_of (ps := ["code"]) (callG (.cons (.nm 1) (.cons (.nm 0) .nil)) ctr_lvalue) rfl (bindLam fun fd e1 e2 e3 a => by
    cases fd
    dsimp only at e1 e2 e3
    subst e1 e2 e3
    kernel_rfl) (by simp) (by simp) (by simp; rfl) (by simp; rfl) (by decide +kernel)
theorem lamV_laid {one other : List Row} (h : SmallRows other) (c : Int) : LamC (KK w) p w (n + 3) (lamObj qMaps (lamAt 4)) [("other", .list (other.map rowV)), ("one", .list (one.map rowV))] [.int c] false (laidV one other c).v :=
  lamC_of (ps := ["code"]) (callG (.cons (.nm 2) (.cons (.nm 1) (.cons (.nm 0) .nil))) (ctr_llaid h)) rfl (bindLam fun fd e1 e2 e3 a => by
    cases fd
    dsimp only at e1 e2 e3
    subst e1 e2 e3
    kernel_rfl) (by simp) (by simp; decide +kernel) (by simp; rfl) (by simp; exact ⟨rfl, rfl⟩) (by decide +kernel)
noncomputable abbrev maNames : List Str := ["one", "other", "near", "far", "mine", "its", "laid", "told", "low", "high", "value"]
noncomputable def mRows (rows : List Row) : List Row := rowsOf (mapOf rows).1 (mapOf rows).2
theorem maps_tr {one other : List Row} (o1 : RowsOk one) (o2 : RowsOk other) (s1 : SmallRows one) (s2 : SmallRows other) (z1 : one.length ≤ 6) (z2 : other.length ≤ 6) :
    Body w p (n + 6) (topAt 38) false maNames [.list (one.map rowV), .list (other.map rowV)] 9 false (.bool true) := by
  have c1 := map_canon o1
  have c2 := map_canon o2
  have l1 := map_length one
  have l2 := map_length other
  have v1 := c1.len
  have v2 := c2.len
  refine .andThen (ρ' := [fz (.list (one.map rowV)), fz (.list (other.map rowV)), fz (RMv zv (mapOf one).1 (mapOf one).2), fz (RMv zv (mapOf other).1 (mapOf other).2), none, none, none, none, none, none, none])
    (Tr1.asgSwap [⟨2, _, _⟩, ⟨3, _, _⟩] (l := [(false, RMv zv (mapOf one).1 (mapOf one).2), (false, RMv zv (mapOf other).1 (mapOf other).2)]) (.cons (madeMap (.nm 0) .int o1 (by omega)) (.cons (madeMap (.nm 1) .int o2 (by omega)) .nil)) rfl (by simp [sizeLine_eq]) (by simp; exact ⟨⟨rfl, rfl⟩, rfl, rfl⟩) (fun env eo => sw_of eo (by rfl))) ?_
  refine .andThen (ρ' := [fz (.list (one.map rowV)), fz (.list (other.map rowV)), fz (RMv zv (mapOf one).1 (mapOf one).2), fz (RMv zv (mapOf other).1 (mapOf other).2), fz (.list ((mRows one).map rowV)), none, none, none, none, none, none])
    (Tr1.set 4 (.freeze (Rhs.newList (.cast (callG (fr := true) (.cons (.nm 0) (.cons (Evs.lam [0] lamK_maps (pre := "_law_maps_right.<locals>.") (by kernel_rfl) (.inr ⟨rfl, by kernel_rfl⟩)) .nil)) (ctr_tiles (told := valueOf one) (gv := Val.v) o1 (by omega) (fun c => ?_) tell_val (fun c => value_small s1 c))) (congrArg (fun l : List Row => V.list (l.map rowV)) (tiles_mine o1))) (tups_rows _)))) ?_
  · exact lamV_mine c
  refine .andThen (ρ' := [fz (.list (one.map rowV)), fz (.list (other.map rowV)), fz (RMv zv (mapOf one).1 (mapOf one).2), fz (RMv zv (mapOf other).1 (mapOf other).2), fz (.list ((mRows one).map rowV)), fz (.list ((mRows other).map rowV)), none, none, none, none, none])
    (Tr1.set 5 (.freeze (Rhs.newList (.cast (callG (fr := true) (.cons (.nm 1) (.cons (Evs.lam [1] lamK_maps (pre := "_law_maps_right.<locals>.") (by kernel_rfl) (.inr ⟨rfl, by kernel_rfl⟩)) .nil)) (ctr_tiles (told := valueOf other) (gv := Val.v) o2 (by omega) (fun c => ?_) tell_val (fun c => value_small s2 c))) (congrArg (fun l : List Row => V.list (l.map rowV)) (tiles_mine o2))) (tups_rows _)))) ?_
  · exact lamV_its c
  have r1 : (mRows one).length = (mapOf one).2.length := rowsOf_length ..
  have r2 : (mRows other).length = (mapOf other).2.length := rowsOf_length ..
  have w1 : Sh (.list ((mRows one).map rowV)) 2000 2 := by
    have := sh_rows (map_small o1 s1) (rows_fit c1)
    exact ⟨this.plain, this.short, this.able, Nat.le_trans this.wt (by show 127 * (mRows one).length ≤ _; omega), this.dep⟩
  have w2 : Sh (.list ((mRows other).map rowV)) 2000 2 := by
    have := sh_rows (map_small o2 s2) (rows_fit c2)
    exact ⟨this.plain, this.short, this.able, Nat.le_trans this.wt (by show 127 * (mRows other).length ≤ _; omega), this.dep⟩
  refine .ifRet (b := false) (fr := false) (d := .bool false) (.cast (.or (.c (b := false) (.cast (.cmp cmp_neS (.rep (fr := true) (callG (fr := true) (.cons (.nm 2) .nil) (ctr_rows Val.v v1 (by omega))) w1 (by decide) (by decide)) (.rep (fr := false) (.nm 4) w1 (by decide) (by decide))) (b' := false) (by simp; rfl)) fun _ =>
    .c (b := false) (.cast (.cmp cmp_neS (.rep (fr := true) (callG (fr := true) (.cons (.nm 3) .nil) (ctr_rows Val.v v2 (by omega))) w2 (by decide) (by decide)) (.rep (fr := false) (.nm 5) w2 (by decide) (by decide))) (b' := false) (by simp; rfl)) fun _ => .nil)) rfl) (fun h => by exact ff h) fun _ => ?_
  have lc := laid_canon (d := zv) c1 c2
  have ll := laid_length (d := zv) (mapOf one) (mapOf other)
  obtain ⟨lrows, hlr⟩ : ∃ l, l = rowsOf (laidOf zv (mapOf one) (mapOf other)).1 (laidOf zv (mapOf one) (mapOf other)).2 := ⟨_, rfl⟩
  have hll : lrows.length = (laidOf zv (mapOf one) (mapOf other)).1.length := by rw [hlr, rowsOf_length, lc.len]
  have w3 : Sh (.list (lrows.map rowV)) 9000 2 := by
    have := sh_rows (laid_small o1 o2 s1 s2) (rows_fit lc)
    rw [← hlr] at this
    exact ⟨this.plain, this.short, this.able, Nat.le_trans this.wt (by omega), this.dep⟩
  refine .andThen (ρ' := [fz (.list (one.map rowV)), fz (.list (other.map rowV)), fz (RMv zv (mapOf one).1 (mapOf one).2), fz (RMv zv (mapOf other).1 (mapOf other).2), fz (.list ((mRows one).map rowV)), fz (.list ((mRows other).map rowV)), fz (.list (lrows.map rowV)), none, none, none, none])
    (Tr1.set 6 (.freeze (Rhs.newList (.cast (callG (fr := true) (.cons (.cast (.addLists (fr := false) (.nm 0) (.nm 1) (by simp [sizeLine_eq]; omega)) (congrArg V.list List.map_append.symm)) (.cons (Evs.lam [0, 1] lamK_maps (pre := "_law_maps_right.<locals>.") (by kernel_rfl) (.inr ⟨rfl, by kernel_rfl⟩)) .nil)) (ctr_tiles (rows := one ++ other) (told := laidV one other) (gv := Val.v) (rows_app o1 o2) (by simp; omega) (fun c => ?_) tell_val (fun c => ?_))) (by rw [hlr]; exact congrArg (fun l : List Row => V.list (l.map rowV)) (tiles_laid o1 o2))) (tups_rows _)))) ?_
  · exact lamV_laid s2 c
  · show laidV one other c ∈ smallV
    unfold laidV
    split
    · exact value_small s1 c
    · exact value_small s2 c
  refine .ifRet (b := false) (fr := false) (d := .bool false) (.cast (.cmp cmp_neS (.rep (fr := true) (callG (fr := true) (.cons (callG (fr := true) (.cons (.nm 2) (.cons (.nm 3) .nil)) (ctr_laid (d := zv) c1 c2 (by omega) (by omega))).weak .nil) (ctr_rows Val.v lc.len (by omega))) (hlr ▸ w3) (by decide) (by decide)) (.rep (fr := false) (.nm 6) w3 (by decide) (by decide))) (b' := false) (by
      show (sg (V.list ((rowsOf (laidOf zv (mapOf one) (mapOf other)).1 (laidOf zv (mapOf one) (mapOf other)).2).map rowV)).shown != _) = false
      rw [← hlr]; simp)) (fun h => by exact ff h) fun _ => ?_
  refine .andThen (ρ' := [fz (.list (one.map rowV)), fz (.list (other.map rowV)), fz (RMv zv (mapOf one).1 (mapOf one).2), fz (RMv zv (mapOf other).1 (mapOf other).2), fz (.list ((mRows one).map rowV)), fz (.list ((mRows other).map rowV)), fz (.list (lrows.map rowV)), ow (vals []), none, none, none])
    (Tr1.set 7 (Rhs.newList (.list .nil) rfl)) ?_
  have sm : SmallRows (mRows one) := map_small o1 s1
  have sv : ∀ l : List Row, SmallRows l → ∀ v ∈ valuesOf l, v ∈ smallV := fun l hl => foldl_inv (P := fun f : List Val => ∀ v ∈ f, v ∈ smallV) (fun v hv => by cases hv) fun b q hq hb v hv => by
    unfold addVal at hv
    split at hv
    · exact hb v hv
    · rcases List.mem_append.mp hv with z | z
      · exact hb v z
      · simp at z; subst z; exact hl q hq
  refine .cons (Tr1.for (ds := (mRows one).map rowV) (fun j ρ => ∃ x y z, ρ = [fz (.list (one.map rowV)), fz (.list (other.map rowV)), fz (RMv zv (mapOf one).1 (mapOf one).2), fz (RMv zv (mapOf other).1 (mapOf other).2), fz (.list ((mRows one).map rowV)), fz (.list ((mRows other).map rowV)), fz (.list (lrows.map rowV)), ow (vals (valuesOf ((mRows one).take j))), x, y, z]) (.list (fr := false) (.nm 4)) ⟨none, none, none, rfl⟩ ?_) ?_
  · rintro j e ρ hd ⟨x, y, z, rfl⟩
    rw [List.getElem?_map, Option.map_eq_some_iff] at hd
    obtain ⟨q, hq, rfl⟩ := hd
    have hj := (List.getElem?_eq_some_iff.mp hq).1
    have hqv : q.2.2 ∈ smallV := sm q (List.mem_of_getElem? hq)
    have hfv : ∀ v ∈ valuesOf ((mRows one).take j), v ∈ smallV := sv _ fun x hx => sm x (List.mem_of_mem_take hx)
    have hlen : (valuesOf ((mRows one).take j)).length ≤ 500 := by
      have := foldV_length ((mRows one).take j) []
      have h2 : ((mRows one).take j).length ≤ j := List.length_take_le ..
      unfold valuesOf
      simp at this h2 ⊢; omega
    have next : valuesOf ((mRows one).take (j + 1)) = addVal (valuesOf ((mRows one).take j)) q.2.2 := by
      unfold valuesOf; rw [foldl_take _ _ _ hq]
    rw [next]
    generalize valuesOf ((mRows one).take j) = f at *
    refine ⟨_, .tuple [⟨8, _, _⟩, ⟨9, _, _⟩, ⟨10, _, _⟩] rfl (by simp; exact ⟨⟨rfl, .inl rfl⟩, ⟨rfl, .inl rfl⟩, rfl, .inl rfl⟩), ?_⟩
    show Tr _ _ _ _ _ _ _ [fz (.list (one.map rowV)), fz (.list (other.map rowV)), fz (RMv zv (mapOf one).1 (mapOf one).2), fz (RMv zv (mapOf other).1 (mapOf other).2), fz (.list ((mRows one).map rowV)), fz (.list ((mRows other).map rowV)), fz (.list (lrows.map rowV)), ow (vals f), fz (.int q.1), fz (.int q.2.1), fz q.2.2.v] _ _ _
    have e2 : (f.filter fun _ => true).map (fun a => V.str a.v.shown) = f.map fun a => V.str a.v.shown := by rw [List.filter_eq_self.mpr (by simp)]
    refine .cons (Tr1.ife (b := !decide (q.2.2 ∈ f)) (.cmp (cmp_notInT hfv hqv) (.rep (fr := false) (.nm 10) (sh_small (D := 0) hqv) (by decide) (by decide)) (.cast (.comp (fr := false) (as := f) (gv := Val.v) (pt := fun _ => true) (f := fun a => .str a.v.shown) [] (.list (fr := false) (.nm 7)) (by rw [sizeLine_eq]; omega) (fun a ha => rfl) (fun a ha _ => .rep (fr := false) (.nm 0) (sh_small (D := 0) (hfv a ha)) (by decide) (by decide))) (congrArg V.list e2))) (fun h => ?_) fun h => ?_) (fun ρ' q => .nil q)
    · refine .cons (.app 7 (ds := f.map Val.v) (.hid (fr := false) (.nm 10)) (by rw [List.length_map]; omega)) ?_
      rintro ρ rfl
      refine .nil ⟨fz (.int q.1), fz (.int q.2.1), fz q.2.2.v, ?_⟩
      unfold addVal
      rw [if_neg (by simpa using h)]
      show [_, _, _, _, _, _, _, _, _, _, _] = [_, _, _, _, _, _, _, _, _, _, _]
      unfold vals
      rw [List.map_append]; rfl
    · refine .nil ⟨fz (.int q.1), fz (.int q.2.1), fz q.2.2.v, ?_⟩
      unfold addVal
      rw [if_pos (by simpa using h)]
  rintro ρ ⟨x, y, z, rfl⟩
  rw [List.length_map, List.take_length]
  have w4 : Sh (vals (valuesOf (mRows one))) 9000 2 := by
    have h1 := foldV_length (mRows one) []
    have := Sh.list (Shs.map (g := Val.v) (W := 41) (D := 1) (l := valuesOf (mRows one)) fun v hv => sh_small (sv _ sm v hv))
    refine ⟨this.plain, this.short, this.able, Nat.le_trans this.wt ?_, this.dep⟩
    unfold valuesOf at *
    simp at h1 ⊢; omega
  refine .ifRet (b := false) (fr := false) (d := .bool false) (.cast (.cmp cmp_neS (.rep (fr := true) (callG (fr := true) (.cons (.nm 2) .nil) (ctr_values v1 (by omega))) w4 (by decide) (by decide)) (.rep (fr := false) (.nm 7) w4 (by decide) (by decide))) (b' := false) (by simp; rfl)) (fun h => by exact ff h) fun _ => ?_
  have sm2 : SmallRows (mRows other) := map_small o2 s2
  have again : madeOf (mRows one) (.int 2) = mapOf one := again_map o1 _
  have c3 : Canon (madeOf (mRows one) (.int 2)).1 (madeOf (mRows one) (.int 2)).2 := by rw [again]; exact c1
  have okm : RowsOk (mRows one) := rowsOf_ok c1
  have eqs : decide (mapOf one = mapOf other) = (sg (V.list ((mRows one).map rowV)).shown == sg (V.list ((mRows other).map rowV)).shown) := by
    have := sgR_inj sm sm2
    unfold sgR at this
    rw [this, decide_eq_decide]
    exact ⟨fun q => by unfold mRows; rw [q], fun q => rowsOf_inj v1 v2 q⟩
  refine .ifRet (b := false) (fr := false) (d := .bool false) (.cast (.or (.c (b := false) (.cast (.cmp cmp_neBool (callG (.cons (.nm 2) (.cons (.nm 3) .nil)) (ctr_equal c1 c2 (by omega) (by omega))) (.cmp cmp_eqS (.rep (fr := false) (.nm 4) w1 (by decide) (by decide)) (.rep (fr := false) (.nm 5) w2 (by decide) (by decide)))) (b' := false) (by rw [← eqs]; simp)) fun _ =>
    .c (b := false) (.cast (.not (.val (callG (.cons (.nm 2) (.cons (newMapOf (d := .int 2) (.nm 4) .int okm (by omega)).weak .nil)) (ctr_equal c1 c3 (by omega) (by rw [again]; omega))))) (b' := false) (by rw [again]; simp)) fun _ => .nil)) rfl) (fun h => by exact ff h) fun _ => ?_
  exact .ret (fr := false) (.cast (.cmp cmp_eqS (.rep (fr := false) (.list (.cons (callG (fr := true) (.cons (.nm 2) .nil) (ctr_rows Val.v v1 (by omega))).weak (.cons (callG (fr := true) (.cons (.nm 3) .nil) (ctr_rows Val.v v2 (by omega))).weak .nil))) (Sh.list (.cons w1 (.cons w2 .nil))) (by decide) (by decide)) (.rep (fr := false) (.list (.cons (.nm 4) (.cons (.nm 5) .nil))) (Sh.list (.cons w1 (.cons w2 .nil))) (by decide) (by decide))) (by simp; rfl)) ⟨rfl, fun h => h⟩
theorem ctr_maps {one other : List Row} (o1 : RowsOk one) (o2 : RowsOk other) (s1 : SmallRows one) (s2 : SmallRows other) (z1 : one.length ≤ 6) (z2 : other.length ≤ 6) :
    Ctr (KK w) p w (n + 7) (.ref 363) [.list (one.map rowV), .list (other.map rowV)] false (.bool true) :=
  ctrB ["near", "far", "mine", "its", "laid", "told", "low", "high", "value"] D_maps S_maps (maps_tr o1 o2 s1 s2 z1 z2)
end Mine

-- Q26
namespace Mine
variable {K : Frag} {p : Program} {w : World} {n : Nat} {sc : Scope} {cm : Bool} {xs : List Str}

/-! _law_pairs_right -/
theorem cmp_eqSelf {d : V} (h : d.plain = true) (hd : d.py.depth ≤ 60) : CmpIs K p w n .Eq d d true := by
  have := cmp_eq (K := K) (p := p) (w := w) (n := n) (d := d) (e := d) h h hd
  rw [show d.eqv d = true from SeqAt.eqv_refl d.py (d.plain_lay h)] at this
  exact this
noncomputable def cmpTo : Stmt → Expr
  | .Return (some (.Compare _ _ [e] _)) _ => e
  | _ => .Name "" default
noncomputable def lamPair : Expr := (argsOf (cmpTo ((bodyOf (topAt 39)).getD 1 (.Pass default)))).getD 1 (.Name "" default)
theorem lamV_pair {one other : List Row} (c : Int) : LamC (KK w) p w (n + 2) (lamObj qPairs lamPair) [("other", .list (other.map rowV)), ("one", .list (one.map rowV))] [.int c] false (gP (pairV one other c)) :=
  lamC_of (ps := ["code"]) (.tuple (.cons (callG (.cons (.nm 2) (.cons (.nm 0) .nil)) ctr_lvalue) (.cons (callG (.cons (.nm 1) (.cons (.nm 0) .nil)) ctr_lvalue) .nil))) rfl (bindLam fun fd e1 e2 e3 a => by
    cases fd
    dsimp only at e1 e2 e3
    subst e1 e2 e3
    kernel_rfl) (by simp) (by simp; decide +kernel) (by simp; rfl) (by simp; exact ⟨rfl, rfl⟩) (by decide +kernel)
theorem built_length {α : Type} [DecidableEq α] (g : Int → α) : ∀ (l : List (Int × Int)) (m : List Int × List α), (l.foldl (tileStep g) m).1.length ≤ m.1.length + l.length
  | [], m => by simp
  | q :: r, m => by
    have h1 := built_length g r (tileStep g m q)
    have h2 : (tileStep g m q).1.length ≤ m.1.length + 1 := by
      unfold tileStep addB
      split <;> simp
    simp only [List.foldl_cons, List.length_cons]
    omega
theorem tups_tV {α : Type} {gv : α → V} (h : ∀ a, (gv a).tup = true) (l : List (Int × Int × α)) : V.tups (l.map (tV gv)) = true := by
  induction l with
  | nil => rfl
  | cons q r ih =>
    show ((tV gv q).tup && V.tups (r.map (tV gv))) = true
    rw [ih]
    show ((true && (true && ((gv q.2.2).tup && true))) && true) = true
    rw [h]; rfl
theorem pairs_tr {one other : List Row} (o1 : RowsOk one) (o2 : RowsOk other) (s1 : SmallRows one) (s2 : SmallRows other) (z1 : one.length ≤ 6) (z2 : other.length ≤ 6) :
    Body w p (n + 5) (topAt 39) false ["one", "other", "told"] [.list (one.map rowV), .list (other.map rowV)] 1 false (.bool true) := by
  have c1 := map_canon o1
  have c2 := map_canon o2
  have l1 := map_length one
  have l2 := map_length other
  have v1 := c1.len
  have v2 := c2.len
  obtain ⟨m, hm⟩ : ∃ m, m = builtOf (pairV one other) (cutsOf (one ++ other)) := ⟨_, rfl⟩
  have hB : ∀ st vs, Built st vs 1114112 (pairAt (mapOf one) (mapOf other)) → st = m.1 ∧ vs = m.2 := by rw [hm]; exact tiles_pairs o1 o2
  have hml : m.1.length ≤ 30 := by
    have h1 := built_length (pairV one other) (pairsOf (cutsOf (one ++ other))) ([], [])
    have h2 := pairsOf_length (cutsOf (one ++ other))
    have h3 := cuts_length (one ++ other)
    have h4 := keys_length (one ++ other)
    rw [List.length_append] at h4
    rw [hm]
    unfold builtOf
    simp only [List.length_nil] at h1
    omega
  have hl : m.2.length = m.1.length := by
    have := (builtOf_spec (g := pairV one other) (rows_app o1 o2) (fun c y h hk => by
      unfold pairV
      rw [value_const (rows := one) (fun q hq => List.mem_append_left _ hq) h hk, value_const (rows := other) (fun q hq => List.mem_append_right _ hq) h hk])).len
    rw [hm]; exact this
  have ht : tilesOf (pairV one other) (one ++ other) = rowsOf m.1 m.2 := by rw [hm]; rfl
  refine .andThen (ρ' := [fz (.list (one.map rowV)), fz (.list (other.map rowV)), fz (.list ((rowsOf m.1 m.2).map (tV gP)))])
    (Tr1.set 2 (.freeze (Rhs.newList (callG (fr := true) (.cons (callG (fr := true) (.cons (newMapOf (.nm 0) .int o1 (by omega)).weak (.cons (newMapOf (.nm 1) .int o2 (by omega)).weak .nil)) (ctr_paired (d := zv) (e := zv) c1 c2 (by show (mapOf one).1.length ≤ _; omega) (by show (mapOf other).1.length ≤ _; omega) hB)).weak .nil) (ctr_rows gP hl (by omega))) (tups_tV tup_gP _)))) ?_
  refine .ret (fr := false) (.cmp (cmp_eqSelf (d := .list ((rowsOf m.1 m.2).map (tV gP))) (plains_map (plain_tV tell_pair) _) ?_) (.nm 2) (Evs.cast (callG (fr := true) (.cons (.cast (.addLists (fr := false) (.nm 0) (.nm 1) (by simp [sizeLine_eq]; omega)) (congrArg V.list List.map_append.symm)) (.cons (Evs.lam [0, 1] lamK_pairs (pre := "_law_pairs_right.<locals>.") (by kernel_rfl) (.inl ⟨rfl, by kernel_rfl⟩)) .nil)) (ctr_tiles (rows := one ++ other) (told := pairV one other) (gv := gP) (rows_app o1 o2) (by simp; omega) (fun c => ?_) tell_pair (fun c => ⟨value_small s1 c, value_small s2 c⟩))) (by rw [ht])).weak) ⟨rfl, fun h => h⟩
  · show PyData.depthAll (V.pys ((rowsOf m.1 m.2).map (tV gP))) + 1 ≤ 60
    have := depth_map (depth_tV tell_pair) (rowsOf m.1 m.2)
    omega
  · exact lamV_pair c
theorem ctr_pairs {one other : List Row} (o1 : RowsOk one) (o2 : RowsOk other) (s1 : SmallRows one) (s2 : SmallRows other) (z1 : one.length ≤ 6) (z2 : other.length ≤ 6) :
    Ctr (KK w) p w (n + 6) (.ref 370) [.list (one.map rowV), .list (other.map rowV)] false (.bool true) :=
  ctrB ["told"] D_pairs S_pairs (pairs_tr o1 o2 s1 s2 z1 z2)
end Mine

-- Q27
namespace Mine

/-! bytes beside other values -/
section
open Builtin
variable {prog : Program} {w : World} {A : Around} {E : Value → Shared → Prop} {s : Shared} {Q : Value → Shared → Prop}
theorem g_int_bytes (a : Int) (t : Tok) (b : Array UInt8) (u : Tok) : Gives (Builtin.«int.__eq__» ⟨[.int a t, .bytes b u], []⟩) (.val (Value.notImplemented)) :=
  .of_wp fun M A E s Q h => by obtain ⟨hp, g, d, tk, os⟩ := s; wp_walk; exact ⟨_, rfl, h⟩
theorem g_bool_bytes (a : Bool) (b : Array UInt8) (u : Tok) : Gives (Builtin.«int.__eq__» ⟨[.bool a, .bytes b u], []⟩) (.val (Value.notImplemented)) :=
  .of_wp fun M A E s Q h => by obtain ⟨hp, g, d, tk, os⟩ := s; wp_walk; exact ⟨_, rfl, h⟩
theorem g_none_bytes (b : Array UInt8) (u : Tok) : Gives (Builtin.«NoneType.__eq__» ⟨[.none, .bytes b u], []⟩) (.val (Value.notImplemented)) :=
  .of_wp fun M A E s Q h => by obtain ⟨hp, g, d, tk, os⟩ := s; wp_walk; exact ⟨_, rfl, h⟩
theorem g_str_bytes (a : Str) (t : Tok) (b : Array UInt8) (u : Tok) : Gives (Builtin.«str.__eq__» ⟨[.str a t, .bytes b u], []⟩) (.val (Value.notImplemented)) :=
  .of_wp fun M A E s Q h => by obtain ⟨hp, g, d, tk, os⟩ := s; wp_walk; exact ⟨_, rfl, h⟩
theorem g_bytes_other {T : String} (b : Array UInt8) (u : Tok) {v : Value} (hT : ∀ s : Shared, s.TypeIs v T) (hs : isSubtype (.type T) (.type "bytes") = pure false) : Gives (Builtin.«bytes.__eq__» ⟨[.bytes b u, v], []⟩) (.val (Value.notImplemented)) := by
  refine .of_wp fun M A E s Q hq => ?_
  show wpAny M A (isInstance v (.type "bytes") >>= fun r => _) _ E s
  refine wpAny_bind (wpAny_isInstance (hT s) hs ?_)
  exact wpAny_bind (wpAny_rule (wpAny_pure ⟨_, rfl, hq⟩))
theorem slot_bytes_eq_refl : PySem.Slot "bytes" (cmpInfo .Eq).2.2 "bytes.__eq__" :=
  .of (owner := "bytes") (n := "__eq__") (by rw [typeLookup_type, builtinLookup_eq_fast]; kernel_rfl) (by decide +kernel) (by decide +kernel) (by decide +kernel)
    (by first | exact .inl (by decide +kernel) | exact .inr (by decide +kernel)) (by rw [isSubtype_type]; kernel_rfl)
theorem eq_other_bytes {T id : String} {B : Builtin} {v : Value} {b : Array UInt8} {u : Tok} (hT : ∀ s : Shared, s.TypeIs v T) (hne : (Value.type T != Value.type "bytes") = true) (hsub : isSubtype (.type "bytes") (.type T) = pure false) (hs2 : isSubtype (.type T) (.type "bytes") = pure false)
    (sl : PySem.Slot T (cmpInfo .Eq).2.1 id) (en : entryFor table id = some B) (ar : ∀ a b, argsOk id ⟨[a, b], []⟩) (g : Gives (B ⟨[v, .bytes b u], []⟩) (.val (Value.notImplemented))) (hk : isSame v (.bytes b u) = pure false) (h : Q (.bool false) s) :
    wpAny (model prog w) A (compareOp .Eq v (.bytes b u)) Q E s := by
  show wpAny _ A (richCompare .Eq _ _) Q E s
  exact EqNone.wpAny_richCompare_eq_decline (k := false) hT (fun s' => typeIs_bytes s' b u) hne hsub sl slot_bytes_eq_refl hk
    (call_gives sl (hT s) en (ar _ _) g ⟨rfl, call_gives slot_bytes_eq_refl (typeIs_bytes s b u) FB.entry_bytes_eq (FB.args_bytes_eq_2 _ _) (g_bytes_other b u hT hs2) ⟨rfl, h⟩⟩)
theorem eq_bytes_other {T id : String} {B : Builtin} {v : Value} {b : Array UInt8} {u : Tok} (hT : ∀ s : Shared, s.TypeIs v T) (hne : (Value.type "bytes" != Value.type T) = true) (hs2 : isSubtype (.type T) (.type "bytes") = pure false)
    (sl : PySem.Slot T (cmpInfo .Eq).2.2 id) (en : entryFor table id = some B) (ar : ∀ a b, argsOk id ⟨[a, b], []⟩) (g : Gives (B ⟨[v, .bytes b u], []⟩) (.val (Value.notImplemented))) (hk : isSame (.bytes b u) v = pure false) (h : Q (.bool false) s) :
    wpAny (model prog w) A (compareOp .Eq (.bytes b u) v) Q E s := by
  show wpAny _ A (richCompare .Eq _ _) Q E s
  exact EqNone.wpAny_richCompare_eq_decline (k := false) (fun s' => typeIs_bytes s' b u) hT hne hs2 FB.slot_bytes_eq sl hk
    (call_gives FB.slot_bytes_eq (typeIs_bytes s b u) FB.entry_bytes_eq (FB.args_bytes_eq_2 _ _) (g_bytes_other b u hT hs2) ⟨rfl, call_gives sl (hT s) en (ar _ _) g ⟨rfl, h⟩⟩)
theorem isinstance_false_bytes {n : Array UInt8} {u : Tok} {T : String} (hne : (Value.type "bytes" == Value.type T) = false) (hty : typeOf (.type T) = pure (.type "type")) (hsub : isSubtype (.type "bytes") (.type T) = pure false) :
    Meets (Builtin.«isinstance» ⟨[.bytes n u, .type T], []⟩) (fun _ R s => R (.ok (.ret (.bool false))) { s with toks := s.toks + 1 }) :=
  fun _ _ _ _ s hs => by
    obtain ⟨h, g, d, t, os⟩ := s
    exact isinstance_outer (isinstance_nested_false_bytes hne hty hsub hs)
theorem isi_bytes_bool {b : Array UInt8} {u : Tok} (h : Q (.bool false) { s with toks := s.toks + 1 }) : wpAny (model prog w) A (call (.builtin "isinstance") [.bytes b u, .type "bool"]) Q E s :=
  call_isinstance (isinstance_false_bytes (by decide +kernel) F.isi_meta_bool F.sub_bytes_bool) h
theorem slot_bytes_repr : PySem.Slot "bytes" "__repr__" "bytes.__repr__" :=
  .of (owner := "bytes") (n := "__repr__") (by rw [typeLookup_type, builtinLookup_eq_fast]; kernel_rfl) (by decide +kernel) (by decide +kernel) (by decide +kernel)
    (by first | exact .inl (by decide +kernel) | exact .inr (by decide +kernel)) (by rw [isSubtype_type]; kernel_rfl)
theorem entry_bytes_repr : entryFor table "bytes.__repr__" = some Builtin.«bytes.__repr__» := entryFor_of_tree (by kernel_rfl)
theorem args_bytes_repr_1 (a : Value) : argsOk "bytes.__repr__" ⟨[a], []⟩ := by
  unfold argsOk; rw [signature?_of (id := "bytes.__repr__") (n := ['_', '_', 'r', 'p', 'e', 'r', '_', '_']) (o := ['s', 'e', 't', 'y', 'b']) (by kernel_rfl) FB.owner_bytes]; kernel_rfl
theorem g_bytes_repr (u : Tok) : Gives (Builtin.«bytes.__repr__» ⟨[.bytes #[97] u], []⟩) (.str (Bytes.literal #[97] false)) := .of_eq rfl
theorem repr_of_bytes {u : Tok} (h : Q (.str (Bytes.literal #[97] false) s.toks) { s with toks := s.toks + 1 }) : wpAny (model prog w) A (call (.builtin "repr") [.bytes #[97] u]) Q E s :=
  call_repr_gives (typeIs_bytes s _ u) slot_bytes_repr entry_bytes_repr (args_bytes_repr_1 _) (g_bytes_repr u) h (hx := by decide +kernel)
end
end Mine

-- Q28
namespace Mine
variable {K : Frag} {p : Program} {w : World} {n : Nat} {sc : Scope} {cm : Bool} {xs : List Str}

/-! the law's last values -/
noncomputable def lvs : List V := [.int 0, .bool false, .int 1, .bool true, .int 2, .none, .str "a", .bytes #[97]]
noncomputable def V.lk : V → Bool
  | .none | .bool _ | .int _ | .bytes _ => true
  | .str x => PyData.strOk x
  | _ => false
noncomputable def V.by : V → Option (Array UInt8)
  | .bytes x => Option.some x
  | _ => Option.none
noncomputable def eqL (a b : V) : Bool := match a.by, b.by with
  | some x, some y => x.toList == y.toList
  | none, none => a.eqv b
  | _, _ => false
/-- an atom is bytes, or it is plain and beside bytes never equal -/
theorem lk_cases {a : V} (h : a.lk = true) : (a.by = none ∧ a.plain = true ∧ a.py.depth = 0 ∧ ∀ x, CmpIs K p w n .Eq a (.bytes x) false ∧ CmpIs K p w n .Eq (.bytes x) a false) ∨ ∃ x, a = .bytes x := by
  cases a with
  | bytes x => exact .inr ⟨x, rfl⟩
  | none => exact .inl ⟨rfl, rfl, rfl, fun x => ⟨fun A E s X v u Q r wd ra rb h => by cases ra using Rep.casesNone; cases rb using Rep.casesBytes; exact eq_other_bytes (T := "NoneType") (fun _ => rfl) (by decide) F.sub_bytes_NoneType F.sub_NoneType_bytes F.slot_NoneType_eq F.entry_NoneType_eq F.args_NoneType_eq_2 (g_none_bytes _ _) rfl h,
      fun A E s X v u Q r wd ra rb h => by cases ra using Rep.casesBytes; cases rb using Rep.casesNone; exact eq_bytes_other (T := "NoneType") (fun _ => rfl) (by decide) F.sub_NoneType_bytes F.slot_NoneType_eq_refl F.entry_NoneType_eq F.args_NoneType_eq_2 (g_none_bytes _ _) rfl h⟩⟩
  | bool c => exact .inl ⟨rfl, rfl, rfl, fun x => ⟨fun A E s X v u Q r wd ra rb h => by cases ra using Rep.casesBool; cases rb using Rep.casesBytes; exact eq_other_bytes (T := "bool") (fun _ => rfl) (by decide) F.sub_bytes_bool F.sub_bool_bytes F.slot_bool_eq F.entry_int_eq F.args_int_eq_2 (g_bool_bytes _ _ _) rfl h,
      fun A E s X v u Q r wd ra rb h => by cases ra using Rep.casesBytes; cases rb using Rep.casesBool; exact eq_bytes_other (T := "bool") (fun _ => rfl) (by decide) F.sub_bool_bytes F.slot_bool_eq_refl F.entry_int_eq F.args_int_eq_2 (g_bool_bytes _ _ _) rfl h⟩⟩
  | int c => exact .inl ⟨rfl, rfl, rfl, fun x => ⟨fun A E s X v u Q r wd ra rb h => by cases ra using Rep.casesInt; cases rb using Rep.casesBytes; exact eq_other_bytes (T := "int") (fun s => typeIs_int s _ _) (by decide) F.sub_bytes_int F.sub_int_bytes F.slot_int_eq F.entry_int_eq F.args_int_eq_2 (g_int_bytes _ _ _ _) rfl h,
      fun A E s X v u Q r wd ra rb h => by cases ra using Rep.casesBytes; cases rb using Rep.casesInt; exact eq_bytes_other (T := "int") (fun s => typeIs_int s _ _) (by decide) F.sub_int_bytes F.slot_int_eq_refl F.entry_int_eq F.args_int_eq_2 (g_int_bytes _ _ _ _) rfl h⟩⟩
  | str c => exact .inl ⟨rfl, h, rfl, fun x => ⟨fun A E s X v u Q r wd ra rb h => by cases ra using Rep.casesStr; cases rb using Rep.casesBytes; exact eq_other_bytes (T := "str") (fun s => typeIs_str s _ _) (by decide) F.sub_bytes_str F.sub_str_bytes F.slot_str_eq F.entry_str_eq F.args_str_eq_2 (g_str_bytes _ _ _ _) rfl h,
      fun A E s X v u Q r wd ra rb h => by cases ra using Rep.casesBytes; cases rb using Rep.casesStr; exact eq_bytes_other (T := "str") (fun s => typeIs_str s _ _) (by decide) F.sub_str_bytes F.slot_str_eq_refl F.entry_str_eq F.args_str_eq_2 (g_str_bytes _ _ _ _) rfl h⟩⟩
  | _ => exact ff h
theorem cmp_eqLv {a b : V} (ha : a.lk = true) (hb : b.lk = true) : CmpIs K p w n .Eq a b (eqL a b) := by
  unfold eqL
  rcases lk_cases (K := K) (p := p) (w := w) (n := n) ha with ⟨a1, a2, a3, a4⟩ | ⟨x, rfl⟩ <;> rcases lk_cases (K := K) (p := p) (w := w) (n := n) hb with ⟨b1, b2, b3, b4⟩ | ⟨y, rfl⟩
  · rw [a1, b1]; exact cmp_eq a2 b2 (by rw [a3]; exact Nat.zero_le _)
  · rw [a1]; exact (a4 y).1
  · rw [b1]; exact (b4 x).2
  · exact fun A E s X v u Q r wd ra rb h => by cases ra using Rep.casesBytes; cases rb using Rep.casesBytes; exact eq_bytes h
theorem atom_bool {d : V} (h : d.lk = true) : d.flat = true ∨ ∃ x, d = .bytes x := by
  cases d <;> first | exact .inl rfl | exact .inr ⟨_, rfl⟩ | exact ff h
theorem ctr_isBoolL {d : V} (h : d.lk = true) : Ctr K p w n (.builtin "isinstance") [d, .ty "bool"] false (.bool d.isBool) := by
  rcases atom_bool h with h | ⟨x, rfl⟩
  · exact ctr_isBool h
  · exact fun A E s X vs Q r wd lv rp po => by
      cases rp using RepL.casesCons with
      | cons a1 q =>
        cases q using RepL.casesCons with
        | cons b1 q =>
          cases q using RepL.casesNil; cases b1 using Rep.casesTy; cases a1 using Rep.casesBytes
          exact isi_bytes_bool (po _ s.heap _ (.refl _) (.bool _) ff)
noncomputable def shownL : V → Str
  | .bytes b => Builtin.Bytes.literal b false
  | d => d.shown
theorem lvs_lk : ∀ d ∈ lvs, d.lk = true := by decide +kernel
theorem lvs_tup : ∀ d ∈ lvs, d.tup = true := by decide +kernel
theorem ctr_like1 {a b : V} (ha : a ∈ lvs) (hb : b ∈ lvs) : Ctr (KK w) p w (n + 2) (.ref 215) [a, b] false (.bool (eqL a b && (a.isBool == b.isBool))) :=
  ctr_like0 (cmp_eqLv (lvs_lk a ha) (lvs_lk b hb)) (ctr_isBoolL (lvs_lk a ha)) (ctr_isBoolL (lvs_lk b hb))
theorem ctr_repL {d : V} (h : d ∈ lvs) : Ctr K p w n (.builtin "repr") [d] false (.str (shownL d)) := by
  have : d = .int 0 ∨ d = .bool false ∨ d = .int 1 ∨ d = .bool true ∨ d = .int 2 ∨ d = .none ∨ d = .str "a" ∨ d = .bytes #[97] := by simpa [lvs] using h
  rcases this with rfl | rfl | rfl | rfl | rfl | rfl | rfl | rfl
  · exact ctr_rep (Sh.int (D := 0) (by decide)) (by decide) (by decide)
  · exact ctr_rep (Sh.bool (D := 0)) (by decide) (by decide)
  · exact ctr_rep (Sh.int (D := 0) (by decide)) (by decide) (by decide)
  · exact ctr_rep (Sh.bool (D := 0)) (by decide) (by decide)
  · exact ctr_rep (Sh.int (D := 0) (by decide)) (by decide) (by decide)
  · exact ctr_rep (Sh.none (D := 0)) (by decide) (by decide)
  · exact ctr_repr (d := .str "a") (by decide +kernel) (by decide +kernel) (by decide +kernel) (by decide +kernel) (by decide +kernel)
  · exact fun A E s X vs Q r wd lv rp po => by
      cases rp using RepL.casesCons with
      | cons a1 q =>
        cases q using RepL.casesNil; cases a1 using Rep.casesBytes
        exact repr_of_bytes (po _ s.heap _ (.refl _) (.str _ _) ff)
theorem lvs_fact : ∀ a ∈ lvs, ∀ b ∈ lvs, ((eqL a b && (a.isBool == b.isBool)) == (sg (shownL a) == sg (shownL b))) = true := by decide +kernel
theorem lvs_self : ∀ a ∈ lvs, (eqL a a && (a.isBool == a.isBool)) = true := by decide +kernel

/-! slices -/
noncomputable def pickG {α : Type} (l : List α) (lo hi st : Option Int) : List α :=
  (sliceRange (sliceBounds lo hi st l.length).1 (sliceBounds lo hi st l.length).2.1 (sliceBounds lo hi st l.length).2.2).filterMap (l[·]?)
theorem pickV_map {α : Type} (g : α → V) (l : List α) (lo hi st : Option Int) : pickV (l.map g) lo hi st = (pickG l lo hi st).map g := by
  unfold pickV pickG
  rw [List.length_map, List.map_filterMap]
  congr 1
  funext i
  rw [List.getElem?_map]
theorem pickG_length {α : Type} (l : List α) (lo hi st : Option Int) : (pickG l lo hi st).length ≤ (sliceRange (sliceBounds lo hi st l.length).1 (sliceBounds lo hi st l.length).2.1 (sliceBounds lo hi st l.length).2.2).length := List.length_filterMap_le ..
theorem slice_fits : ∀ n, n < 19 → ∀ q ∈ ([(none, none, some 2), (some 1, none, some 2), (none, none, some (-1)), (none, some 9, none), (some 9, none, none)] : List (Option Int × Option Int × Option Int)),
    (sliceRange (sliceBounds q.1 q.2.1 q.2.2 n).1 (sliceBounds q.1 q.2.1 q.2.2 n).2.1 (sliceBounds q.1 q.2.1 q.2.2 n).2.2).length ≤ 18 := by decide +kernel
theorem slice_fits64 : ∀ n, n < 64 → (sliceRange (sliceBounds none (some 18) none n).1 (sliceBounds none (some 18) none n).2.1 (sliceBounds none (some 18) none n).2.2).length ≤ 18 := by decide +kernel
theorem pick18 {α : Type} {l : List α} (h : l.length ≤ 18) {lo hi st : Option Int} (q : (lo, hi, st) ∈ ([(none, none, some 2), (some 1, none, some 2), (none, none, some (-1)), (none, some 9, none), (some 9, none, none)] : List (Option Int × Option Int × Option Int))) : (pickG l lo hi st).length ≤ 18 :=
  Nat.le_trans (pickG_length l lo hi st) (slice_fits l.length (by omega) (lo, hi, st) q)
end Mine

-- Q29
namespace Mine
variable {K : Frag} {p : Program} {w : World} {n : Nat} {sc : Scope} {cm : Bool} {xs : List Str}

/-! the law -/
theorem spot_mem (c : Int) : spotAt c ∈ spots := by
  obtain ⟨q1, q2⟩ := fmod_range (c := c) (m := 20) (by decide)
  have hl : (c.fmod 20).toNat < spots.length := by show _ < 20; omega
  unfold spotAt
  rw [List.getD_eq_getElem?_getD, List.getElem?_eq_getElem hl]
  exact List.getElem_mem hl
theorem spot_codes (l : List Int) : Codes (l.map spotAt) := fun x hx => by
  obtain ⟨c, _, rfl⟩ := List.mem_map.mp hx
  exact spot_mem c
theorem rowsAt_ok (cells : List Int) (some : List Val) : RowsOk (rowsAt cells some) := fun q hq => by
  obtain ⟨k, _, rfl⟩ := List.mem_map.mp hq
  exact ⟨(spots_range _ (spot_mem _)).1, (spots_range _ (spot_mem _)).2⟩
theorem rowsAt_small (cells : List Int) {some : List Val} (h : ∀ v ∈ some, v ∈ smallV) : SmallRows (rowsAt cells some) := fun q hq => by
  obtain ⟨k, _, rfl⟩ := List.mem_map.mp hq
  show some.getD _ zv ∈ smallV
  rw [List.getD_eq_getElem?_getD]
  cases e : some[((cells.getD (3 * k + 2) 0).fmod 4).toNat]? with
  | none => decide
  | some v => exact h v (List.mem_of_getElem? e)
theorem rowsAt_length (cells : List Int) (some : List Val) : (rowsAt cells some).length = cells.length / 3 := by
  unfold rowsAt; rw [List.length_map, List.length_range]
noncomputable def someV : List Val := [.int 1, .bool true, .int 0, .int 2]
noncomputable def plainV : List Val := [.int 1, .int 2, .int 0, .int 3]
theorem some_small : ∀ v ∈ someV, v ∈ smallV := by decide
theorem plain_small : ∀ v ∈ plainV, v ∈ smallV := by decide
theorem spItem (c : Int) : (spots.map V.int)[(c.fmod 20).toNat]? = some (.int (spotAt c)) := by
  obtain ⟨q1, q2⟩ := fmod_range (c := c) (m := 20) (by decide)
  have := mItem (l := spots) (i := (c.fmod 20).toNat) (by show _ < 20; omega)
  rw [Int.toNat_natCast] at this
  exact this
theorem map_true {α β : Type} (l : List α) (f : α → β) : (l.filter fun _ => true).map f = l.map f := by rw [List.filter_eq_self.mpr (by simp)]
noncomputable def lvAt (c : Int) : V := lvs.getD (c.fmod 8).toNat .none
theorem lvAt_mem (c : Int) : lvAt c ∈ lvs := by
  obtain ⟨q1, q2⟩ := fmod_range (c := c) (m := 8) (by decide)
  have hl : (c.fmod 8).toNat < lvs.length := by show _ < 8; omega
  unfold lvAt
  rw [List.getD_eq_getElem?_getD, List.getElem?_eq_getElem hl]
  exact List.getElem_mem hl
theorem lvItem (c : Int) : lvs[(c.fmod 8).toNat]? = some (lvAt c) := by
  obtain ⟨q1, q2⟩ := fmod_range (c := c) (m := 8) (by decide)
  have hl : (c.fmod 8).toNat < lvs.length := by show _ < 8; omega
  unfold lvAt
  rw [List.getD_eq_getElem?_getD, List.getElem?_eq_getElem hl]; rfl
noncomputable abbrev laNames : List Str := ["script", "cells", "one", "other", "some", "plain", "values", "last", "near", "far"]
/-- a comprehension that tells spots -/
theorem compSpots {ρ : List (Option V)} {elt iter : Expr} {px pos : Pos} {x : Str} {scope : Scope} {as : List Int} {fr : Bool}
    (hit : IterEv (KK w) p w n sc xs ρ false (.Name x px) iter (as.map .int)) (hz : as.length ≤ 18)
    (he : ∀ a ∈ as, Evs (KK w) p w n (relS scope sc) (x :: capNames xs []) (some (.int a) :: capDat ρ []) elt false (.int (spotAt a)))
    (ok : capOk scope sc xs [] = true := by rfl) (kd : scope.kind = .function := by rfl) (hx : scope.names.lookup x = some .local := by rfl) (hs : ∀ env x, foldedSetIterable iter env x = pure x := by intro _ _; rfl) :
    Evs (KK w) p w n sc xs ρ (.ListComp elt [⟨.Name x px, iter, [], 0⟩] scope pos) fr (.ints (as.map spotAt)) := by
  have := Evs.comp (K := KK w) (p := p) (w := w) (n := n) (sc := sc) (xs := xs) (ρ := ρ) (elt := elt) (iter := iter) (px := px) (pos := pos) (ifs := []) (as := as) (gv := V.int) (pt := fun _ => true) (f := fun a => V.int (spotAt a)) (fr := fr) (x := x) (scope := scope) [] hit (by rw [sizeLine_eq]; omega) (fun a ha => rfl) (fun a ha _ => he a ha) rfl ok kd hx hs
  rw [map_true] at this
  unfold V.ints
  rw [List.map_map]
  exact this
set_option maxHeartbeats 4000000 in
theorem law_tr {script : List Int} (hz : script.length < 64) : Body w p (n + 7) (topAt 40) true laNames [.ints script] 9 false (.bool true) := by
  obtain ⟨cells, hcells⟩ : ∃ c, c = (pickG script none (some 18) none).map fun c : Int => c.fmod 1000000007 := ⟨_, rfl⟩
  have cl : cells.length ≤ 18 := by
    rw [hcells, List.length_map]
    exact Nat.le_trans (pickG_length ..) (slice_fits64 _ hz)
  refine .cons (Tr1.assignComp (i := 1) (as := pickG script none (some 18) none) (gv := V.int) (pt := fun _ => true) (f := fun c => .int (c.fmod 1000000007)) [] (.list (fr := true) (.cast (.slice (.nm 0) .none (.some .int) .none (by simp) (by simp [sizeLine_eq]; omega)) (congrArg V.list (pickV_map V.int script none (some 18) none)))) (by
    have := pickG_length script none (some 18) none
    have := slice_fits64 _ hz
    rw [sizeLine_eq]; omega) (fun c hc => rfl) (fun c hc _ => .mod (callT (.cons (.nm 0) .nil) ctr_int_int) .int (by decide) (by decide)) rfl) ?_
  rintro ρ rfl
  have e1 : ((pickG script none (some 18) none).filter fun _ => true).map (fun c : Int => V.int (c.fmod 1000000007)) = cells.map .int := by
    rw [map_true, hcells, List.map_map]; rfl
  show Tr _ _ _ _ _ _ _ [fz (.ints script), fz (.list (((pickG script none (some 18) none).filter fun _ => true).map (fun c : Int => V.int (c.fmod 1000000007)))), none, none, none, none, none, none, none, none] _ _ _
  rw [e1]
  clear e1 hcells
  have p1 := pick18 cl (lo := none) (hi := none) (st := some 2) (by simp)
  have p2 := pick18 cl (lo := some 1) (hi := none) (st := some 2) (by simp)
  obtain ⟨one, hone⟩ : ∃ l, l = (pickG cells none none (some 2)).map spotAt := ⟨_, rfl⟩
  obtain ⟨other, hother⟩ : ∃ l, l = (pickG cells (some 1) none (some 2)).map spotAt := ⟨_, rfl⟩
  have h1 : Codes one := by rw [hone]; exact spot_codes _
  have h2 : Codes other := by rw [hother]; exact spot_codes _
  have z1 : one.length ≤ 20 := by rw [hone, List.length_map]; omega
  have z2 : other.length ≤ 20 := by rw [hother, List.length_map]; omega
  have f20 : ∀ c : Int, 0 ≤ c.fmod 20 ∧ c.fmod 20 < 2 ^ 63 := fun c => by
    have := fmod_range (c := c) (m := 20) (by decide); omega
  refine .andThen (ρ' := [fz (.ints script), fz (.ints cells), fz (.ints one), fz (.ints other), none, none, none, none, none, none])
    (Tr1.asgSwap [⟨2, _, _⟩, ⟨3, _, _⟩] (l := [(false, .ints one), (false, .ints other)])
      (.cons (.freeze (Rhs.newList (.cast (compSpots (as := pickG cells none none (some 2)) (.list (fr := true) (.cast (.slice (.nm 1) .none .none (.some .int) (by simp) (by simp [sizeLine_eq]; omega)) (congrArg V.list (pickV_map V.int cells none none (some 2))))) p1 (fun c hc => .item .spots (.mod (.nm 0) .int (by decide) (by decide)) (f20 _).1 (f20 _).2 (spItem c))) (by rw [hone]; rfl)) (tups_ints _)))
      (.cons (.freeze (Rhs.newList (.cast (compSpots (as := pickG cells (some 1) none (some 2)) (.list (fr := true) (.cast (.slice (.nm 1) (.some .int) .none (.some .int) (by simp) (by simp [sizeLine_eq]; omega)) (congrArg V.list (pickV_map V.int cells (some 1) none (some 2))))) p2 (fun c hc => .item .spots (.mod (.nm 0) .int (by decide) (by decide)) (f20 _).1 (f20 _).2 (spItem c))) (by rw [hother]; rfl)) (tups_ints _))) .nil)) rfl (by simp [sizeLine_eq]) (by simp; exact ⟨⟨rfl, rfl⟩, rfl, rfl⟩) (fun env eo => sw_of eo (by rfl))) ?_
  clear hone hother
  refine .ifRet (b := false) (fr := false) (d := .bool false) (.cast (.or (.c (b := false) (.not (.val (callG (.cons (.nm 2) (.cons (.nm 3) .nil)) (ctr_sets h1 h2 z1 z2)))) fun _ => .c (b := false) (.not (.val (callG (.cons (.nm 2) .nil) (ctr_numbers h1 z1)))) fun _ => .c (b := false) (.not (.val (callG (.cons (.nm 3) .nil) (ctr_rest h2 z2)))) fun _ => .nil)) rfl) (fun h => by exact ff h) fun _ => ?_
  refine .andThen (ρ' := [fz (.ints script), fz (.ints cells), fz (.ints one), fz (.ints other), fz (vals someV), fz (vals plainV), none, none, none, none])
    (Tr1.asgSwap [⟨4, _, _⟩, ⟨5, _, _⟩] (l := [(false, vals someV), (false, vals plainV)])
      (.cons (.freeze (Rhs.newList (.list (.cons .int (.cons .boolc (.cons .int (.cons .int .nil))))) (tups_vals someV)))
      (.cons (.freeze (Rhs.newList (.list (.cons .int (.cons .int (.cons .int (.cons .int .nil))))) (tups_vals plainV))) .nil)) rfl (by simp [sizeLine_eq]) (by simp; exact ⟨⟨rfl, rfl⟩, rfl, rfl⟩) (fun env eo => sw_of eo (by rfl))) ?_
  have p3 := pick18 cl (lo := none) (hi := none) (st := some (-1)) (by simp)
  have p4 := pick18 cl (lo := none) (hi := some 9) (st := none) (by simp)
  have p5 := pick18 cl (lo := some 9) (hi := none) (st := none) (by simp)
  have rl : ∀ (l : List Int) (v : List Val), l.length ≤ 18 → (rowsAt l v).length ≤ 6 := fun l v h => by rw [rowsAt_length]; omega
  refine .ifRet (b := false) (fr := false) (d := .bool false) (.not (.val (callG (.cons (callG (fr := true) (.cons (.nm 1) (.cons (.nm 4) .nil)) (ctr_lrows (some := someV) (by omega) rfl)).weak (.cons (callG (fr := true) (.cons (.cast (.slice (fr := false) (.nm 1) .none .none (.some (.neg .int)) (by simp) (by simp [sizeLine_eq]; omega)) (congrArg V.list (pickV_map V.int cells none none (some (-1))))) (.cons (.nm 4) .nil)) (ctr_lrows (some := someV) (by omega) rfl)).weak .nil)) (ctr_maps (rowsAt_ok _ _) (rowsAt_ok _ _) (rowsAt_small _ some_small) (rowsAt_small _ some_small) (rl _ _ cl) (rl _ _ p3))))) (fun h => by exact ff h) fun _ => ?_
  refine .ifRet (b := false) (fr := false) (d := .bool false) (.not (.val (callG (.cons (callG (fr := true) (.cons (.cast (.slice (fr := false) (.nm 1) .none (.some .int) .none (by simp) (by simp [sizeLine_eq]; omega)) (congrArg V.list (pickV_map V.int cells none (some 9) none))) (.cons (.nm 5) .nil)) (ctr_lrows (some := plainV) (by omega) rfl)).weak (.cons (callG (fr := true) (.cons (.cast (.slice (fr := false) (.nm 1) (.some .int) .none .none (by simp) (by simp [sizeLine_eq]; omega)) (congrArg V.list (pickV_map V.int cells (some 9) none none))) (.cons (.nm 5) .nil)) (ctr_lrows (some := plainV) (by omega) rfl)).weak .nil)) (ctr_pairs (rowsAt_ok _ _) (rowsAt_ok _ _) (rowsAt_small _ plain_small) (rowsAt_small _ plain_small) (rl _ _ p4) (rl _ _ p5))))) (fun h => by exact ff h) fun _ => ?_
  obtain ⟨last, hlast⟩ : ∃ k, k = cells.sum := ⟨_, rfl⟩
  refine .andThen (ρ' := [fz (.ints script), fz (.ints cells), fz (.ints one), fz (.ints other), fz (vals someV), fz (vals plainV), fz (.list lvs), fz (.int last), none, none])
    (Tr1.asgSwap [⟨6, _, _⟩, ⟨7, _, _⟩] (l := [(false, .list lvs), (false, .int last)])
      (.cons (.freeze (Rhs.newList (.list (.cons .int (.cons .boolc (.cons .int (.cons .boolc (.cons .int (.cons .nonec (.cons .strc (.cons .bytesc .nil))))))))) (by decide +kernel)))
      (.cons (.tup (.cast (callB (.cons (.nm 1) .nil) ctr_sum) (by rw [hlast])) rfl) .nil)) rfl (by simp [sizeLine_eq]) (by simp; exact ⟨⟨rfl, rfl⟩, rfl, rfl⟩) (fun env eo => sw_of eo (by rfl))) ?_
  have f8 : ∀ c : Int, 0 ≤ c.fmod 8 ∧ c.fmod 8 < 2 ^ 63 := fun c => by
    have := fmod_range (c := c) (m := 8) (by decide); omega
  obtain ⟨i, hi⟩ : ∃ k : Int, k = last.fdiv 8 := ⟨_, rfl⟩
  have m1 := lvAt_mem last
  have m2 := lvAt_mem i
  refine .andThen (ρ' := [fz (.ints script), fz (.ints cells), fz (.ints one), fz (.ints other), fz (vals someV), fz (vals plainV), fz (.list lvs), fz (.int last), fz (lvAt last), fz (lvAt i)])
    (Tr1.asgSwap [⟨8, _, _⟩, ⟨9, _, _⟩] (l := [(false, lvAt last), (false, lvAt i)])
      (.cons (.tup (.item (.nm 6) (.mod (.nm 7) .int (by decide) (by decide)) (f8 _).1 (f8 _).2 (lvItem _)) (lvs_tup _ m1))
      (.cons (.tup (.item (.nm 6) (.mod (.cast (.floordiv (.nm 7) .int (by decide) (by decide)) (by rw [hi])) .int (by decide) (by decide)) (f8 i).1 (f8 i).2 (lvItem i)) (lvs_tup _ m2)) .nil)) rfl (by simp [sizeLine_eq]) (by simp; exact ⟨⟨rfl, rfl⟩, rfl, rfl⟩) (fun env eo => sw_of eo (by rfl))) ?_
  generalize lvAt last = a at *
  generalize lvAt i = b at *
  exact .ret (fr := false) (.cast (.and2 (.cmp cmp_eqBool (callG (.cons (.nm 8) (.cons (.nm 9) .nil)) (ctr_like1 m1 m2)) (.cmp cmp_eqS (callB (.cons (.nm 8) .nil) (ctr_repL m1)) (callB (.cons (.nm 9) .nil) (ctr_repL m2)))) fun _ => callG (.cons (.nm 8) (.cons (.nm 8) .nil)) (ctr_like1 m1 m1)) (by rw [lvs_fact a m1 b m2, lvs_self a m1]; rfl)) ⟨rfl, fun h => h⟩
end Mine

-- Q30
namespace Mine

/-! the walk joined with the head -/
theorem ints_repL {h : Heap} {X : Addr → Prop} {vs : List Value} {ns : List Int} (q : IntsAre vs ns) : RepL h X vs (ns.map .int) := by
  induction q with
  | nil => exact .nil
  | cons n t _ ih => exact .cons (.int n t) ih
theorem law_names : ∀ x, (scopeOf (topAt 40)).names.lookup x ≠ some .cell := fun x e => by
  have h : ((scopeOf (topAt 40)).names.all fun q => q.2 != .cell) = true := by kernel_rfl
  generalize (scopeOf (topAt 40)).names = l at h e
  induction l with
  | nil => cases e
  | cons q l ih =>
    obtain ⟨y, k⟩ := q
    rw [List.all_cons, Bool.and_eq_true] at h
    rw [List.lookup_cons] at e
    split at e
    · cases e; simp at h
    · exact ih h.2 e
theorem law_run {prog p' : Program} {w : World} {s : Shared} {G : Heap} {name : Str} {L fa a : Addr} {cd : Value} {m mg mb : Str → Option Value} {mean : ExcName → Option Value} {loose : List Str} {script : List Int} {vs : List Value} {E : Value → Shared → Prop} {Q : Flow → Shared → Prop}
    (X : (KK w).In G) (T : Top p' loose mean mg mb G) (F : Fr G L s.heap m) (N : News G L s.heap [(365, tabObj #[]), (360, tabObj #[])]) (hL : G.IsList a vs.toArray) (hI : IntsAre vs script) (hz : script.length < 64) (hm : m "script" = some (.ref a))
    (po : ∀ h' tk, (∀ b o, G.get? b = some o → h'.get? b = some o) → (∃ ps, h'.get? 365 = some (tabObj ps)) → (∃ ps, h'.get? 360 = some (tabObj ps)) → Q (.ret (.bool true)) { s with heap := h', toks := tk }) :
    wpAny (model prog w) (callerA.deeper (envOf name (scopeOf (topAt 40)) L fa cd)) (execs (bodyOf (topAt 40)) (envOf name (scopeOf (topAt 40)) L fa cd)) Q E s := by
  obtain ⟨n1, n2, n3⟩ := N (365, tabObj #[]) (by simp)
  obtain ⟨n4, n5, n6⟩ := N (360, tabObj #[]) (by simp)
  dsimp only at n1 n2 n3 n4 n5 n6
  have GL : G.get? L = none := by
    cases e : G.get? L with
    | none => rfl
    | some o => exact absurd (Heap.lt_size e) (Nat.not_lt.mpr F.above)
  have KL : (KK w).lookup L = none := by
    cases e : (KK w).lookup L with
    | none => rfl
    | some o => have := X L o e; rw [GL] at this; exact nn this
  have lp : ∀ b o, G.get? b = some o → b ≠ 365 ∧ b ≠ 360 := fun b o e => ⟨fun z => (by rw [z, n3] at e; exact nn e), fun z => (by rw [z, n6] at e; exact nn e)⟩
  have wd : ∀ h' : Heap, (∀ b o, G.get? b = some o → h'.get? b = some o) → Wd (KK w) h' := fun h' k => by
    refine ⟨fun b o e => k b o (X b o e), ⟨by kernel_rfl, by kernel_rfl⟩, ⟨mg, Ns.le T.g fun o e => k _ o e⟩, ⟨mb, Ns.le T.b fun o e => k _ o e, T.builtins⟩, ?_, ?_, ?_⟩
    · obtain ⟨mc, n, r⟩ := T.nolimit
      exact ⟨mc, Ns.le n fun o e => k _ o e, r⟩
    · obtain ⟨mc, n, r⟩ := T.nodigits
      exact ⟨mc, Ns.le n fun o e => k _ o e, r⟩
    · obtain ⟨bm, ob, e1, _, e2, e3, e4, e5⟩ := T.bmain
      have e6 := mg_of X T.g (n := "__builtins__") (v := .ref 4) (by kernel_rfl)
      rw [e1] at e6
      cases e6
      exact ⟨ob, k _ _ e2, e3, e4, e5⟩
  have fa' : ∀ b, Fa true (envOf name (scopeOf (topAt 40)) L fa cd) b → b = L := fun b z => by
    rcases z with z | ⟨_, x, z⟩
    · exact z
    · cases z
  obtain ⟨o, g1, g2, k, g3⟩ := hL
  have own : ∀ (i : Nat) (d : V), ¬ (entry [V.ints script] 9)[i]? = some (some (true, d)) := fun i d q => by
    obtain ⟨_, _, _, z⟩ := entry_get q; cases z
  have xs : ∀ b, Xs true (fun _ => False) (envOf name (scopeOf (topAt 40)) L fa cd) (entry [V.ints script] 9) (fun _ => 0) b → b = L := fun b z => by
    rcases z with z | z | ⟨i, d, z, _⟩
    · exact z.elim
    · exact fa' b z
    · exact absurd z (own i d)
  have S : Sn (KK w) (scopeOf (topAt 40)) true (fun b o => G.get? b = some o) (fun _ => False) (envOf name (scopeOf (topAt 40)) L fa cd) laNames (entry [V.ints script] 9) (fun _ => 0) s.heap := by
    refine ⟨F.keep, wd, ⟨by rw [n1]; rfl, by rw [n4]; rfl, fun a z => z.elim⟩, fun b z => ?_, ⟨m, F.ns⟩, fun i x d q1 q2 => ?_, fun i x d q1 q2 => absurd q2 (own i d), ?_, fun i j x q1 q2 => ?_, fun x q => absurd q (law_names x), ⟨fun y c e => (by cases e), fun y z c e => (by cases e)⟩, fun i d q => absurd q (own i d), fun i j d e q => absurd q (own i d), ?_, fun q y c e => (by cases e)⟩
    · have := fa' b z
      subst this
      obtain ⟨oL, _, _, e, _⟩ := F.ns
      exact ⟨by rw [e]; rfl, id, fun z => n2 z.symm, fun z => n5 z.symm, KL, fun o q => (by rw [GL] at q; exact nn q)⟩
    · obtain ⟨hi, d₂, e1, e2⟩ := entry_get q2
      cases e2
      have hi : i = 0 := by simp at hi; exact hi
      subst hi
      cases e1
      rw [show (laNames.map Slot.nm)[0]? = some (.nm "script") from rfl] at q1
      cases q1
      refine ⟨.ref a, .inl ⟨by kernel_rfl, m, F.ns, hm⟩, .list (F.keep _ _ g1) g2 g3 ⟨fun z => ?_, lp a o g1⟩ (ints_repL hI)⟩
      have := xs a z
      subst this
      rw [GL] at g1; exact nn g1
    · rfl
    · have nd : laNames.Nodup := nodup_of (by kernel_rfl)
      rw [List.getElem?_map, Option.map_eq_some_iff] at q1 q2
      obtain ⟨a, a1, a2⟩ := q1
      obtain ⟨b, b1, b2⟩ := q2
      cases a2; cases b2
      exact (List.getElem?_inj (List.getElem?_eq_some_iff.mp a1).1 nd).mp (a1.trans b1.symm)
    · exact ⟨⟨#[], n1, .nil⟩, ⟨#[], n4, .nil⟩⟩
  refine law_tr (p := prog) (w := w) (n := 0) hz _ _ s (fun b o => G.get? b = some o) (fun _ => False) _ _ _ ⟨rfl, rfl, by show callerA.depth + 1 + 21 ≤ 900; decide +kernel, by show callerA.units + 3 + 210 + 200 ≤ 9900; decide +kernel⟩ ⟨rfl, rfl, rfl, by kernel_rfl, fun z => n2 z.symm, fun z => n5 z.symm, noCode (by kernel_rfl)⟩ (fun b o e => lp b o e) S (fun ρ' oa' h' tk f S' => ?_) (fun ρ' oa' f e v h' tk q S' rv fv => ?_)
  · cases f.1
  · obtain ⟨rfl, _⟩ := q
    cases rv using Rep.casesBool
    obtain ⟨⟨ps, t1, _⟩, ⟨ps', t2, _⟩⟩ := S'.tabs
    exact po h' tk S'.keep ⟨ps, t1⟩ ⟨ps', t2⟩
end Mine

-- Q31
namespace Mine
theorem post_ok (as : List WData) : PySem.Challenge.rw_nt0015_01.row.claim.post as (.bool true) as = true := by
  show (WShape.has [] (.bool true) .bool && WTm.holds [] (.eq .res (.lit (.bool true))) { args := as, res := some (.bool true), after := as }) = true
  have h : (WTm.eq .res (.lit (.bool true))).value [] { args := as, res := some (.bool true), after := as } = some (.bool true) := by
    simp [WTm.value, same]
  simp [WTm.holds, h]
  decide
theorem law_walk {prog p' : Program} {w : World} {s : Shared} {G : Heap} {name : Str} {sc : Scope} {body : List Stmt} {L fa a : Addr} {cd : Value} {m mg mb : Str → Option Value} {mean : ExcName → Option Value} {loose : List Str} {script : List Int} {vs : List Value} {E : Value → Shared → Prop} {Q : Flow → Shared → Prop}
    (hsc : sc = scopeOf (topAt 40)) (hb : body = bodyOf (topAt 40))
    (X : (KK w).In G) (T : Top p' loose mean mg mb G) (F : Fr G L s.heap m) (N : News G L s.heap [(365, tabObj #[]), (360, tabObj #[])]) (hL : G.IsList a vs.toArray) (hI : IntsAre vs script) (hz : script.length < 64) (hm : m "script" = some (.ref a))
    (po : ∀ h' tk, (∀ b o, G.get? b = some o → h'.get? b = some o) → (∃ ps, h'.get? 365 = some (tabObj ps)) → (∃ ps, h'.get? 360 = some (tabObj ps)) → Q (.ret (.bool true)) { s with heap := h', toks := tk }) :
    wpAny (model prog w) (callerA.deeper (envOf name sc L fa cd)) (execs body (envOf name sc L fa cd)) Q E s := by
  subst hsc
  subst hb
  exact law_run X T F N hL hI hz hm po
end Mine

end
theorem PySem.Challenge.cw_nt0015_01_holds : PySem.Challenge.rw_nt0015_01.Holds := by
  w_on
  refine holds_law Mine.said0 fun said => ?_
  refine W.holds_open (q := Mine.vw) (loose := Mine.loose0) (Xt := Mine.Xt0) (XP := XL Mine.vw Mine.lv0) (Yf := Hook.obs (kmHook Mine.hK Mine.hA Mine.hA_is [365, 360])) (Ya := Hook.val (kmHook Mine.hK Mine.hA Mine.hA_is [365, 360])) (YP := Hook.says (kmHook Mine.hK Mine.hA Mine.hA_is [365, 360])) (N := 4420) Mine.left0 (Hook.of (kmHook Mine.hK Mine.hA Mine.hA_is [365, 360])) (Hook.keeps (kmHook Mine.hK Mine.hA Mine.hA_is [365, 360])) (fun s e => xl_of s (Bool.and_eq_true_iff.mp e).1) XL.keeps (by rfl) (by rfl) (by rfl) (fun s e => recFacts_of (Bool.and_eq_true_iff.mp e).2) (by rfl) (by assumption) (by kernel_rfl) ⟨rfl, rfl, rfl, rfl, rfl, by kernel_rfl⟩ ?hw ?hc
  case hw => w_witness2
  case hc =>
    intro w s₀ s₁ mg mb G Y fa o pm cd doc dV kV ho hd hcd hD hmg hg args vals as hpre hlay hrd hwl hlo
    have KX := km_in_of Y
    km_tabs Y
    have X := (Ground.X G).1
    have V := (Ground.X G).2
    refine Ground.open G ?_
    intro T B D TE TW
    try (refine guard_noD D (by decide +kernel) ?_; clear D)
    have hT9 : TabsAt ([(369, 365), (362, 360)] : List (Addr × Addr)) s₁.heap := List.forall_mem_cons.mpr ⟨⟨codeHd_of_K (c := 369) (P := 365) KX (by kernel_rfl), hT8 365 (by simp)⟩, List.forall_mem_cons.mpr ⟨⟨codeHd_of_K (c := 362) (P := 360) KX (by kernel_rfl), hT8 360 (by simp)⟩, fun _ h => nomatch h⟩⟩
    clear hmg
    wrow_args hpre hlay hrd hwl hlo
    all_goals (
      first | refine callC_kw (enter_call ?_) | refine enter_call ?_
      w_top on
      kn_posts
      w_call any ho hd hcd hD T F
      clear hd
      kn_ghosts F T
      k_drop
      skip)
    rename_i hI hr hc1 hc2 h1 X' T' Kb F' cH N' l0
    refine Mine.law_walk (by kernel_rfl) (by kernel_rfl) X' T' F' N' lifted hI (by omega) (by kernel_rfl) ?_
    intro h' tk keep t5 t0
    exact ⟨⟨.inl ⟨.bool true, .bool true, [], rfl, fun _ => by rfl, .bool true, Mine.post_ok _, fun _ => ⟨List.nodup_nil, fun a h => nomatch h⟩⟩, keep, rfl, by assumption⟩, t5, t0, trivial⟩
